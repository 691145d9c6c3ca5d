import Derived.Test.YtckngipgcnhfpaaWd
set_option maxHeartbeats 16000000
set_option exponentiation.threshold 100000
set_option maxRecDepth 100000
set_option linter.unusedVariables false
set_option linter.unusedSimpArgs false
namespace Go.Av
open Go Go.Proofs
/-! BigintRing -/
theorem equal_t (x e : Int) : Con Try.prog 41 [IV x, E_ e, IV x, E_ e] (Bo true) := by
  refine con_of Try.func41 rfl rfl rfl rfl rfl ?_
  have hs := same_r x
  by_cases h : e = 0
  · repeat (first | refine seq_ ?_ | refine region_ ?_ | refine nil_ ?_ | refine guard_t rfl rfl rfl ?_ | refine stepY (y_move rfl) rfl ?_ | refine stepY (y_assign rfl) rfl ?_ | refine stepY (y_loadA rfl rfl rfl) rfl ?_ | refine stepY (y_pick_f rfl rfl) rfl ?_ | refine stepY (y_cmpF rfl rfl rfl (by omega)) rfl ?_ | refine stepE (e_box rfl rfl rfl rfl rfl rfl) ?_)
    refine call_ Try.func19 rfl rfl hs rfl (by repeat (first | exact .refl _ | apply Les.cons | exact .nil)) rfl ?_
    repeat (first | refine nil_ ?_ | refine ret_ ?_ | refine stepY (y_assign rfl) rfl ?_ | refine stepY (y_pick_f rfl rfl) rfl ?_)
    ((apply fin_r); (repeat (first | exact .nil | exact .tmp rfl | apply ResL.cons)); (repeat (exact .refl _)))
  · repeat (first | refine seq_ ?_ | refine region_ ?_ | refine nil_ ?_ | refine ret_ ?_ | refine guard_f rfl rfl rfl rfl ?_ | refine stepY (y_move rfl) rfl ?_ | refine stepY (y_assign rfl) rfl ?_ | refine stepY (y_pick_t rfl rfl) rfl ?_ | refine stepY (y_cmpT rfl rfl rfl (by omega)) rfl ?_ | refine stepE (e_box rfl rfl rfl rfl rfl rfl) ?_)
    ((apply fin_r); (repeat (first | exact .nil | exact .tmp rfl | apply ResL.cons)); (repeat (exact .refl _)))
/-- The three values are not all in normal form: then only the examples are asked. -/
theorem Ring_e (p q o : Bool) (l k j : List Int) (h : (vldB p l && vldB q k && vldB o j) = false) : Con Try.prog 10 [AV p l, AV q k, AV o j] (Bo true) := by
  refine con_of Try.func10 rfl rfl rfl rfl rfl ?_
  cases hp : vldB p l with
  | false =>
    have v1 := Valid_c p l
    rw [hp] at v1
    repeat (first | refine seq_ ?_ | refine region_ ?_ | refine nil_ ?_ | refine stepY (y_assign rfl) rfl ?_ | refine stepY (y_loadA rfl rfl rfl) rfl ?_ | refine stepE (e_box rfl rfl rfl rfl rfl rfl) ?_)
    refine call_ Try.func29 rfl rfl v1 rfl (by repeat (first | exact .refl _ | apply Les.cons | exact .nil)) rfl ?_
    repeat (first | refine seq_ ?_ | refine region_ ?_ | refine nil_ ?_ | refine cond_t rfl ?_ | refine guard_f rfl rfl rfl rfl ?_ | refine stepY (y_move rfl) rfl ?_ | refine stepY (y_not rfl) rfl ?_ | refine stepY (y_pick_t rfl rfl) rfl ?_)
    refine call_ Try.func20 rfl rfl examples_c rfl (by repeat (exact .nil)) rfl ?_
    repeat (first | refine nil_ ?_ | refine ret_ ?_ | refine stepY (y_assign rfl) rfl ?_)
    ((apply fin_r); (repeat (first | exact .nil | exact .tmp rfl | apply ResL.cons)); (repeat (exact .refl _)))
  | true =>
    have v1 := Valid_c p l
    rw [hp] at v1
    cases hq : vldB q k with
    | false =>
      have v2 := Valid_c q k
      rw [hq] at v2
      repeat (first | refine seq_ ?_ | refine region_ ?_ | refine nil_ ?_ | refine stepY (y_assign rfl) rfl ?_ | refine stepY (y_loadA rfl rfl rfl) rfl ?_ | refine stepE (e_box rfl rfl rfl rfl rfl rfl) ?_)
      refine call_ Try.func29 rfl rfl v1 rfl (by repeat (first | exact .refl _ | apply Les.cons | exact .nil)) rfl ?_
      repeat (first | refine guard_t rfl rfl rfl ?_ | refine stepY (y_move rfl) rfl ?_ | refine stepY (y_loadA rfl rfl rfl) rfl ?_ | refine stepY (y_not rfl) rfl ?_)
      refine call_ Try.func29 rfl rfl v2 rfl (by repeat (first | exact .refl _ | apply Les.cons | exact .nil)) rfl ?_
      repeat (first | refine seq_ ?_ | refine region_ ?_ | refine nil_ ?_ | refine cond_t rfl ?_ | refine guard_t rfl rfl rfl ?_ | refine guard_f rfl rfl rfl rfl ?_ | refine stepY (y_move rfl) rfl ?_ | refine stepY (y_not rfl) rfl ?_ | (first | refine stepY (y_pick_t rfl rfl) rfl ?_ | refine stepY (y_pick_f rfl rfl) rfl ?_))
      refine call_ Try.func20 rfl rfl examples_c rfl (by repeat (exact .nil)) rfl ?_
      repeat (first | refine nil_ ?_ | refine ret_ ?_ | refine stepY (y_assign rfl) rfl ?_)
      ((apply fin_r); (repeat (first | exact .nil | exact .tmp rfl | apply ResL.cons)); (repeat (exact .refl _)))
    | true =>
      have v2 := Valid_c q k
      have v3 := Valid_c o j
      rw [hq] at v2
      have ho : vldB o j = false := by
        cases ho : vldB o j with
        | false => rfl
        | true => rw [hp, hq, ho] at h; cases h
      rw [ho] at v3
      repeat (first | refine seq_ ?_ | refine region_ ?_ | refine nil_ ?_ | refine stepY (y_assign rfl) rfl ?_ | refine stepY (y_loadA rfl rfl rfl) rfl ?_ | refine stepE (e_box rfl rfl rfl rfl rfl rfl) ?_)
      refine call_ Try.func29 rfl rfl v1 rfl (by repeat (first | exact .refl _ | apply Les.cons | exact .nil)) rfl ?_
      repeat (first | refine guard_t rfl rfl rfl ?_ | refine stepY (y_move rfl) rfl ?_ | refine stepY (y_loadA rfl rfl rfl) rfl ?_ | refine stepY (y_not rfl) rfl ?_)
      refine call_ Try.func29 rfl rfl v2 rfl (by repeat (first | exact .refl _ | apply Les.cons | exact .nil)) rfl ?_
      repeat (first | refine guard_t rfl rfl rfl ?_ | refine stepY (y_move rfl) rfl ?_ | refine stepY (y_loadA rfl rfl rfl) rfl ?_ | refine stepY (y_not rfl) rfl ?_ | refine stepY (y_pick_f rfl rfl) rfl ?_)
      refine call_ Try.func29 rfl rfl v3 rfl (by repeat (first | exact .refl _ | apply Les.cons | exact .nil)) rfl ?_
      repeat (first | refine seq_ ?_ | refine region_ ?_ | refine nil_ ?_ | refine cond_t rfl ?_ | refine guard_t rfl rfl rfl ?_ | refine stepY (y_not rfl) rfl ?_ | refine stepY (y_pick_f rfl rfl) rfl ?_)
      refine call_ Try.func20 rfl rfl examples_c rfl (by repeat (exact .nil)) rfl ?_
      repeat (first | refine nil_ ?_ | refine ret_ ?_ | refine stepY (y_assign rfl) rfl ?_)
      ((apply fin_r); (repeat (first | exact .nil | exact .tmp rfl | apply ResL.cons)); (repeat (exact .refl _)))
theorem Ring_z (A B' C : Int) (hA : ln A.natAbs ≤ 512) (hB : ln B'.natAbs ≤ 512) (hC : ln C.natAbs ≤ 512) : Con Try.prog 10 [IV A, IV B', IV C] (Bo true) := by
  refine con_of Try.func10 rfl rfl rfl rfl rfl ?_
  have vA := Valid_t hA
  have vB := Valid_t hB
  have vC := Valid_t hC
  have aAB := Add_z A B' hA hB
  have aBA := Add_z B' A hB hA
  have aBC := Add_z B' C hB hC
  have mAB := Mul_z A B' hA hB
  have mBA := Mul_z B' A hB hA
  have mBC := Mul_z B' C hB hC
  have mAC := Mul_z A C hA hC
  rw [Int.add_comm] at aBA
  rw [Int.mul_comm] at mBA
  obtain ⟨ab, e, hab, eab, ab0, _⟩ := resI_ex (A + B')
  obtain ⟨bc, g, hbc, ebc, bc0, _⟩ := resI_ex (B' + C)
  obtain ⟨p', h, hp', ep', p0, _⟩ := resI_ex (A * B')
  obtain ⟨r, i, hr, er, r0, _⟩ := resI_ex (B' * C)
  obtain ⟨ac, m, hac, eac, ac0, _⟩ := resI_ex (A * C)
  rw [eab] at aAB aBA
  rw [ebc] at aBC
  rw [ep'] at mAB mBA
  rw [er] at mBC
  rw [eac] at mAC
  have sab := same_r ab
  have sp' := same_r p'
  have sA := same_r A
  -- the first half
  repeat (first | refine seq_ ?_ | refine region_ ?_ | refine nil_ ?_ | refine stepY (y_assign rfl) rfl ?_ | refine stepY (y_loadA rfl rfl rfl) rfl ?_ | refine stepE (e_box rfl rfl rfl rfl rfl rfl) ?_)
  refine call_ Try.func29 rfl rfl vA rfl (by repeat (first | exact .refl _ | apply Les.cons | exact .nil)) rfl ?_
  repeat (first | refine guard_t rfl rfl rfl ?_ | refine stepY (y_move rfl) rfl ?_ | refine stepY (y_loadA rfl rfl rfl) rfl ?_ | refine stepY (y_not rfl) rfl ?_)
  refine call_ Try.func29 rfl rfl vB rfl (by repeat (first | exact .refl _ | apply Les.cons | exact .nil)) rfl ?_
  repeat (first | refine guard_t rfl rfl rfl ?_ | refine stepY (y_move rfl) rfl ?_ | refine stepY (y_loadA rfl rfl rfl) rfl ?_ | refine stepY (y_not rfl) rfl ?_ | refine stepY (y_pick_f rfl rfl) rfl ?_)
  refine call_ Try.func29 rfl rfl vC rfl (by repeat (first | exact .refl _ | apply Les.cons | exact .nil)) rfl ?_
  repeat (first | refine seq_ ?_ | refine region_ ?_ | refine nil_ ?_ | refine skip_ ?_ | refine cond_f rfl ?_ | refine guard_t rfl rfl rfl ?_ | refine stepY (y_loadA rfl rfl rfl) rfl ?_ | refine stepY (y_not rfl) rfl ?_ | refine stepY (y_pick_f rfl rfl) rfl ?_)
  refine call_ Try.func40 rfl rfl aAB rfl (by repeat (first | exact .refl _ | apply Les.cons | exact .nil)) rfl ?_
  repeat (first | refine seq_ ?_ | refine region_ ?_ | refine nil_ ?_ | refine stepY (y_move rfl) rfl ?_ | refine stepY (y_assign rfl) rfl ?_ | refine stepY (y_loadA rfl rfl rfl) rfl ?_ | refine stepY (y_extract rfl rfl) rfl ?_ | refine stepE (e_alloc rfl rfl rfl) ?_ | refine stepE (e_store rfl rfl rfl rfl rfl rfl rfl) ?_)
  refine call_ Try.func40 rfl rfl aBA rfl (by repeat (first | exact .refl _ | apply Les.cons | exact .nil)) rfl ?_
  repeat (first | refine seq_ ?_ | refine region_ ?_ | refine nil_ ?_ | refine stepY (y_move rfl) rfl ?_ | refine stepY (y_assign rfl) rfl ?_ | refine stepY (y_loadA rfl rfl rfl) rfl ?_ | refine stepY (y_extract rfl rfl) rfl ?_ | refine stepE (e_alloc rfl rfl rfl) ?_ | refine stepE (e_store rfl rfl rfl rfl rfl rfl rfl) ?_)
  refine call_ Try.func40 rfl rfl aBC rfl (by repeat (first | exact .refl _ | apply Les.cons | exact .nil)) rfl ?_
  repeat (first | refine seq_ ?_ | refine region_ ?_ | refine nil_ ?_ | refine stepY (y_move rfl) rfl ?_ | refine stepY (y_assign rfl) rfl ?_ | refine stepY (y_loadA rfl rfl rfl) rfl ?_ | refine stepY (y_extract rfl rfl) rfl ?_ | refine stepE (e_alloc rfl rfl rfl) ?_ | refine stepE (e_store rfl rfl rfl rfl rfl rfl rfl) ?_)
  refine call_ Try.func27 rfl rfl mAB rfl (by repeat (first | exact .refl _ | apply Les.cons | exact .nil)) rfl ?_
  repeat (first | refine seq_ ?_ | refine region_ ?_ | refine nil_ ?_ | refine stepY (y_move rfl) rfl ?_ | refine stepY (y_assign rfl) rfl ?_ | refine stepY (y_loadA rfl rfl rfl) rfl ?_ | refine stepY (y_extract rfl rfl) rfl ?_ | refine stepE (e_alloc rfl rfl rfl) ?_ | refine stepE (e_store rfl rfl rfl rfl rfl rfl rfl) ?_)
  refine call_ Try.func27 rfl rfl mBA rfl (by repeat (first | exact .refl _ | apply Les.cons | exact .nil)) rfl ?_
  repeat (first | refine seq_ ?_ | refine region_ ?_ | refine nil_ ?_ | refine stepY (y_move rfl) rfl ?_ | refine stepY (y_assign rfl) rfl ?_ | refine stepY (y_loadA rfl rfl rfl) rfl ?_ | refine stepY (y_extract rfl rfl) rfl ?_ | refine stepE (e_alloc rfl rfl rfl) ?_ | refine stepE (e_store rfl rfl rfl rfl rfl rfl rfl) ?_)
  refine call_ Try.func27 rfl rfl mBC rfl (by repeat (first | exact .refl _ | apply Les.cons | exact .nil)) rfl ?_
  repeat (first | refine seq_ ?_ | refine region_ ?_ | refine nil_ ?_ | refine guard_t rfl rfl rfl ?_ | refine stepY (y_move rfl) rfl ?_ | refine stepY (y_assign rfl) rfl ?_ | refine stepY (y_loadA rfl rfl rfl) rfl ?_ | refine stepY (y_extract rfl rfl) rfl ?_ | refine stepY (y_pick_f rfl rfl) rfl ?_ | refine stepY (y_cmpF rfl rfl rfl (by omega)) rfl ?_ | refine stepE (e_alloc rfl rfl rfl) ?_ | refine stepE (e_store rfl rfl rfl rfl rfl rfl rfl) ?_)
  refine call_ Try.func19 rfl rfl sab rfl (by repeat (first | exact .refl _ | exact .tag _ _ | apply Le.ag | apply Les.cons | exact .nil)) rfl ?_
  repeat (first | refine guard_t rfl rfl rfl ?_ | refine stepY (y_move rfl) rfl ?_ | refine stepY (y_loadA rfl rfl rfl) rfl ?_ | refine stepY (y_not rfl) rfl ?_ | refine stepY (y_pick_f rfl rfl) rfl ?_)
  refine call_ Try.func19 rfl rfl sp' rfl (by repeat (first | exact .refl _ | exact .tag _ _ | apply Le.ag | apply Les.cons | exact .nil)) rfl ?_
  repeat (first | refine nil_ ?_ | refine skip_ ?_ | refine cond_f rfl ?_ | refine guard_t rfl rfl rfl ?_ | refine stepY (y_not rfl) rfl ?_ | refine stepY (y_pick_f rfl rfl) rfl ?_)
  refine seq_ (cut_ [(3, .ptr 3 0), (4, .ptr 4 0), (5, .ptr 5 0), (7, .ptr 7 0), (8, .p (E_ e)), (11, .ptr 11 0), (12, .p (E_ g)), (13, .ptr 13 0), (14, .p (E_ h)), (17, .ptr 17 0), (18, .p (E_ i))] [(3, .bx (cI A)), (4, .bx (cI B')), (5, .bx (cI C)), (7, .bx (cF ab)), (11, .bx (cF bc)), (13, .bx (cF p')), (17, .bx (cF r))] ?_ ?_)
  · by_cases he : e = 0
    · by_cases hg : g = 0
      · obtain ⟨rfl, _⟩ := ab0 he
        obtain ⟨rfl, _⟩ := bc0 hg
        have x1 := Add_z (A + B') C hab hC
        have x2 := Add_z A (B' + C) hA hbc
        rw [← Int.add_assoc] at x2
        obtain ⟨x, f, _, ex, _⟩ := resI_ex (A + B' + C)
        rw [ex] at x1 x2
        have eq1 := equal_t x f
        repeat (first | refine seq_ ?_ | refine region_ ?_ | refine nil_ ?_ | refine cond_t rfl ?_ | refine guard_t rfl rfl rfl ?_ | refine stepY (y_move rfl) rfl ?_ | refine stepY (y_loadA rfl rfl rfl) rfl ?_ | refine stepY (y_pick_t rfl rfl) rfl ?_ | refine stepY (y_cmpT rfl rfl rfl (by omega)) rfl ?_)
        refine call_ Try.func40 rfl rfl x1 rfl (by repeat (first | exact .refl _ | exact .tag _ _ | apply Le.ag | apply Les.cons | exact .nil)) rfl ?_
        repeat (first | refine seq_ ?_ | refine region_ ?_ | refine nil_ ?_ | refine stepY (y_move rfl) rfl ?_ | refine stepY (y_assign rfl) rfl ?_ | refine stepY (y_loadA rfl rfl rfl) rfl ?_ | refine stepY (y_extract rfl rfl) rfl ?_ | refine stepE (e_alloc rfl rfl rfl) ?_ | refine stepE (e_store rfl rfl rfl rfl rfl rfl rfl) ?_)
        refine call_ Try.func40 rfl rfl x2 rfl (by repeat (first | exact .refl _ | exact .tag _ _ | apply Le.ag | apply Les.cons | exact .nil)) rfl ?_
        repeat (first | refine seq_ ?_ | refine region_ ?_ | refine nil_ ?_ | refine stepY (y_move rfl) rfl ?_ | refine stepY (y_assign rfl) rfl ?_ | refine stepY (y_loadA rfl rfl rfl) rfl ?_ | refine stepY (y_extract rfl rfl) rfl ?_ | refine stepE (e_alloc rfl rfl rfl) ?_ | refine stepE (e_store rfl rfl rfl rfl rfl rfl rfl) ?_)
        refine call_ Try.func41 rfl rfl eq1 rfl (by repeat (first | exact .refl _ | exact .tag _ _ | apply Le.ag | apply Les.cons | exact .nil)) rfl ?_
        repeat (first | refine nil_ ?_ | refine skip_ ?_ | refine cond_f rfl ?_ | refine stepY (y_not rfl) rfl ?_)
        exact ⟨rfl, by (repeat (first | exact sub_nil | refine sub_cons rfl ?_)), by (repeat (first | exact subH_nil | refine subH_cons rfl ?_))⟩
      · repeat (first | refine seq_ ?_ | refine region_ ?_ | refine nil_ ?_ | refine skip_ ?_ | refine cond_f rfl ?_ | refine guard_t rfl rfl rfl ?_ | refine stepY (y_move rfl) rfl ?_ | refine stepY (y_pick_t rfl rfl) rfl ?_ | (first | refine stepY (y_cmpT rfl rfl rfl (by omega)) rfl ?_ | refine stepY (y_cmpF rfl rfl rfl (by omega)) rfl ?_))
        exact ⟨rfl, by (repeat (first | exact sub_nil | refine sub_cons rfl ?_)), by (repeat (first | exact subH_nil | refine subH_cons rfl ?_))⟩
    · repeat (first | refine seq_ ?_ | refine region_ ?_ | refine nil_ ?_ | refine skip_ ?_ | refine cond_f rfl ?_ | refine guard_f rfl rfl rfl rfl ?_ | refine stepY (y_move rfl) rfl ?_ | refine stepY (y_pick_f rfl rfl) rfl ?_ | refine stepY (y_cmpF rfl rfl rfl (by omega)) rfl ?_)
      exact ⟨rfl, by (repeat (first | exact sub_nil | refine sub_cons rfl ?_)), by (repeat (first | exact subH_nil | refine subH_cons rfl ?_))⟩
  refine seq_ (cut_ [(3, .ptr 3 0), (4, .ptr 4 0), (5, .ptr 5 0), (7, .ptr 7 0), (8, .p (E_ e)), (11, .ptr 11 0), (12, .p (E_ g)), (13, .ptr 13 0), (14, .p (E_ h)), (17, .ptr 17 0), (18, .p (E_ i))] [(3, .bx (cI A)), (4, .bx (cI B')), (5, .bx (cI C)), (7, .bx (cF ab)), (11, .bx (cF bc)), (13, .bx (cF p')), (17, .bx (cF r))] ?_ ?_)
  · by_cases he : h = 0
    · by_cases hg : i = 0
      · obtain ⟨rfl, _⟩ := p0 he
        obtain ⟨rfl, _⟩ := r0 hg
        have x1 := Mul_z (A * B') C hp' hC
        have x2 := Mul_z A (B' * C) hA hr
        rw [← Int.mul_assoc] at x2
        obtain ⟨x, f, _, ex, _⟩ := resI_ex (A * B' * C)
        rw [ex] at x1 x2
        have eq1 := equal_t x f
        repeat (first | refine seq_ ?_ | refine region_ ?_ | refine nil_ ?_ | refine cond_t rfl ?_ | refine guard_t rfl rfl rfl ?_ | refine stepY (y_move rfl) rfl ?_ | refine stepY (y_loadA rfl rfl rfl) rfl ?_ | refine stepY (y_pick_t rfl rfl) rfl ?_ | refine stepY (y_cmpT rfl rfl rfl (by omega)) rfl ?_)
        refine call_ Try.func27 rfl rfl x1 rfl (by repeat (first | exact .refl _ | exact .tag _ _ | apply Le.ag | apply Les.cons | exact .nil)) rfl ?_
        repeat (first | refine seq_ ?_ | refine region_ ?_ | refine nil_ ?_ | refine stepY (y_move rfl) rfl ?_ | refine stepY (y_assign rfl) rfl ?_ | refine stepY (y_loadA rfl rfl rfl) rfl ?_ | refine stepY (y_extract rfl rfl) rfl ?_ | refine stepE (e_alloc rfl rfl rfl) ?_ | refine stepE (e_store rfl rfl rfl rfl rfl rfl rfl) ?_)
        refine call_ Try.func27 rfl rfl x2 rfl (by repeat (first | exact .refl _ | exact .tag _ _ | apply Le.ag | apply Les.cons | exact .nil)) rfl ?_
        repeat (first | refine seq_ ?_ | refine region_ ?_ | refine nil_ ?_ | refine stepY (y_move rfl) rfl ?_ | refine stepY (y_assign rfl) rfl ?_ | refine stepY (y_loadA rfl rfl rfl) rfl ?_ | refine stepY (y_extract rfl rfl) rfl ?_ | refine stepE (e_alloc rfl rfl rfl) ?_ | refine stepE (e_store rfl rfl rfl rfl rfl rfl rfl) ?_)
        refine call_ Try.func41 rfl rfl eq1 rfl (by repeat (first | exact .refl _ | exact .tag _ _ | apply Le.ag | apply Les.cons | exact .nil)) rfl ?_
        repeat (first | refine nil_ ?_ | refine skip_ ?_ | refine cond_f rfl ?_ | refine stepY (y_not rfl) rfl ?_)
        exact ⟨rfl, by (repeat (first | exact sub_nil | refine sub_cons rfl ?_)), by (repeat (first | exact subH_nil | refine subH_cons rfl ?_))⟩
      · repeat (first | refine seq_ ?_ | refine region_ ?_ | refine nil_ ?_ | refine skip_ ?_ | refine cond_f rfl ?_ | refine guard_t rfl rfl rfl ?_ | refine stepY (y_move rfl) rfl ?_ | refine stepY (y_pick_t rfl rfl) rfl ?_ | (first | refine stepY (y_cmpT rfl rfl rfl (by omega)) rfl ?_ | refine stepY (y_cmpF rfl rfl rfl (by omega)) rfl ?_))
        exact ⟨rfl, by (repeat (first | exact sub_nil | refine sub_cons rfl ?_)), by (repeat (first | exact subH_nil | refine subH_cons rfl ?_))⟩
    · repeat (first | refine seq_ ?_ | refine region_ ?_ | refine nil_ ?_ | refine skip_ ?_ | refine cond_f rfl ?_ | refine guard_f rfl rfl rfl rfl ?_ | refine stepY (y_move rfl) rfl ?_ | refine stepY (y_pick_f rfl rfl) rfl ?_ | refine stepY (y_cmpF rfl rfl rfl (by omega)) rfl ?_)
      exact ⟨rfl, by (repeat (first | exact sub_nil | refine sub_cons rfl ?_)), by (repeat (first | exact subH_nil | refine subH_cons rfl ?_))⟩
  refine seq_ ?_
  repeat (first | refine region_ ?_ | refine stepY (y_loadA rfl rfl rfl) rfl ?_)
  refine call_ Try.func27 rfl rfl mAC rfl (by repeat (first | exact .refl _ | apply Les.cons | exact .nil)) rfl ?_
  repeat (first | refine nil_ ?_ | refine stepY (y_move rfl) rfl ?_ | refine stepY (y_assign rfl) rfl ?_ | refine stepY (y_extract rfl rfl) rfl ?_ | refine stepE (e_alloc rfl rfl rfl) ?_ | refine stepE (e_store rfl rfl rfl rfl rfl rfl rfl) ?_)
  refine seq_ (cut_ [(3, .ptr 3 0), (4, .ptr 4 0), (5, .ptr 5 0), (7, .ptr 7 0), (8, .p (E_ e)), (11, .ptr 11 0), (12, .p (E_ g)), (13, .ptr 13 0), (14, .p (E_ h)), (17, .ptr 17 0), (18, .p (E_ i)), (27, .ptr 27 0), (28, .p (E_ m))] [(3, .bx (cI A)), (4, .bx (cI B')), (5, .bx (cI C)), (7, .bx (cF ab)), (11, .bx (cF bc)), (13, .bx (cF p')), (17, .bx (cF r)), (27, .bx (cF ac))] ?_ ?_)
  · by_cases he : h = 0
    · by_cases hg : g = 0
      · by_cases hm : m = 0
        · obtain ⟨rfl, _⟩ := p0 he
          obtain ⟨rfl, _⟩ := bc0 hg
          obtain ⟨rfl, _⟩ := ac0 hm
          have x1 := Mul_z A (B' + C) hA hbc
          have x2 := Add_z (A * B') (A * C) hp' hac
          rw [Int.mul_add] at x1
          obtain ⟨x, f, _, ex, _⟩ := resI_ex (A * B' + A * C)
          rw [ex] at x1 x2
          have eq1 := equal_t x f
          repeat (first | refine seq_ ?_ | refine region_ ?_ | refine nil_ ?_ | refine cond_t rfl ?_ | refine guard_t rfl rfl rfl ?_ | refine stepY (y_move rfl) rfl ?_ | refine stepY (y_loadA rfl rfl rfl) rfl ?_ | refine stepY (y_pick_t rfl rfl) rfl ?_ | refine stepY (y_cmpT rfl rfl rfl (by omega)) rfl ?_)
          refine call_ Try.func27 rfl rfl x1 rfl (by repeat (first | exact .refl _ | exact .tag _ _ | apply Le.ag | apply Les.cons | exact .nil)) rfl ?_
          repeat (first | refine seq_ ?_ | refine region_ ?_ | refine nil_ ?_ | refine stepY (y_move rfl) rfl ?_ | refine stepY (y_assign rfl) rfl ?_ | refine stepY (y_loadA rfl rfl rfl) rfl ?_ | refine stepY (y_extract rfl rfl) rfl ?_ | refine stepE (e_alloc rfl rfl rfl) ?_ | refine stepE (e_store rfl rfl rfl rfl rfl rfl rfl) ?_)
          refine call_ Try.func40 rfl rfl x2 rfl (by repeat (first | exact .refl _ | exact .tag _ _ | apply Le.ag | apply Les.cons | exact .nil)) rfl ?_
          repeat (first | refine seq_ ?_ | refine region_ ?_ | refine nil_ ?_ | refine stepY (y_move rfl) rfl ?_ | refine stepY (y_assign rfl) rfl ?_ | refine stepY (y_loadA rfl rfl rfl) rfl ?_ | refine stepY (y_extract rfl rfl) rfl ?_ | refine stepE (e_alloc rfl rfl rfl) ?_ | refine stepE (e_store rfl rfl rfl rfl rfl rfl rfl) ?_)
          refine call_ Try.func41 rfl rfl eq1 rfl (by repeat (first | exact .refl _ | exact .tag _ _ | apply Le.ag | apply Les.cons | exact .nil)) rfl ?_
          repeat (first | refine nil_ ?_ | refine skip_ ?_ | refine cond_f rfl ?_ | refine stepY (y_not rfl) rfl ?_)
          exact ⟨rfl, by (repeat (first | exact sub_nil | refine sub_cons rfl ?_)), by (repeat (first | exact subH_nil | refine subH_cons rfl ?_))⟩
        · repeat (first | refine seq_ ?_ | refine region_ ?_ | refine nil_ ?_ | refine skip_ ?_ | refine cond_f rfl ?_ | refine guard_t rfl rfl rfl ?_ | refine stepY (y_move rfl) rfl ?_ | refine stepY (y_pick_t rfl rfl) rfl ?_ | (first | refine stepY (y_cmpT rfl rfl rfl (by omega)) rfl ?_ | refine stepY (y_cmpF rfl rfl rfl (by omega)) rfl ?_))
          exact ⟨rfl, by (repeat (first | exact sub_nil | refine sub_cons rfl ?_)), by (repeat (first | exact subH_nil | refine subH_cons rfl ?_))⟩
      · repeat (first | refine seq_ ?_ | refine region_ ?_ | refine nil_ ?_ | refine skip_ ?_ | refine cond_f rfl ?_ | refine guard_t rfl rfl rfl ?_ | refine guard_f rfl rfl rfl rfl ?_ | refine stepY (y_move rfl) rfl ?_ | (first | refine stepY (y_pick_t rfl rfl) rfl ?_ | refine stepY (y_pick_f rfl rfl) rfl ?_) | (first | refine stepY (y_cmpT rfl rfl rfl (by omega)) rfl ?_ | refine stepY (y_cmpF rfl rfl rfl (by omega)) rfl ?_))
        exact ⟨rfl, by (repeat (first | exact sub_nil | refine sub_cons rfl ?_)), by (repeat (first | exact subH_nil | refine subH_cons rfl ?_))⟩
    · repeat (first | refine seq_ ?_ | refine region_ ?_ | refine nil_ ?_ | refine skip_ ?_ | refine cond_f rfl ?_ | refine guard_f rfl rfl rfl rfl ?_ | refine stepY (y_move rfl) rfl ?_ | refine stepY (y_pick_f rfl rfl) rfl ?_ | refine stepY (y_cmpF rfl rfl rfl (by omega)) rfl ?_)
      exact ⟨rfl, by (repeat (first | exact sub_nil | refine sub_cons rfl ?_)), by (repeat (first | exact subH_nil | refine subH_cons rfl ?_))⟩
  have dAB := Sub_z A B' hA hB
  have nB := Neg_z B' hB
  have nA := Neg_z A hA
  have aAnB := Add_z A (-B') hA (by rw [Int.natAbs_neg]; exact hB)
  have aAnA := Add_z A (-A) hA (by rw [Int.natAbs_neg]; exact hA)
  rw [← Int.sub_eq_add_neg] at aAnB
  rw [Int.add_right_neg, resI_ok (by decide)] at aAnA
  have f1 := FromInt_c 1 (by omega)
  have f0 := FromInt_c 0 (by omega)
  have mA1 := Mul_z A 1 hA (by decide)
  have aA0 := Add_z A 0 hA (by decide)
  rw [Int.mul_one, resI_ok hA] at mA1
  rw [Int.add_zero, resI_ok hA] at aA0
  obtain ⟨d, n, _, ed, _⟩ := resI_ex (A - B')
  rw [ed] at dAB aAnB
  have sd := same_r d
  have hl0 : ((limbs (0 : Int).natAbs).length : Int) = 0 := rfl
  repeat (first | refine seq_ ?_ | refine region_ ?_ | refine stepY (y_loadA rfl rfl rfl) rfl ?_)
  refine call_ Try.func42 rfl rfl dAB rfl (by repeat (first | exact .refl _ | apply Les.cons | exact .nil)) rfl ?_
  repeat (first | refine seq_ ?_ | refine nil_ ?_ | refine stepY (y_move rfl) rfl ?_ | refine stepY (y_assign rfl) rfl ?_ | refine stepY (y_extract rfl rfl) rfl ?_ | refine stepE (e_alloc rfl rfl rfl) ?_ | refine stepE (e_store rfl rfl rfl rfl rfl rfl rfl) ?_)
  refine cut_ [(3, .ptr 3 0), (4, .ptr 4 0), (33, .ptr 33 0), (34, .p (E_ n)), (35, .ptr 35 0), (36, .p (E_ n))] [(3, .bx (cI A)), (4, .bx (cI B')), (33, .bx (cF d)), (35, .bx (cF d))] ?_ ?_
  · refine xDraw 1000 [3,4] mixed ?_
    refine xY (i := 0) (op := .load _ _) rfl (by (exact y_loadA rfl rfl rfl)) rfl rfl rfl rfl (by kernel_rfl) ?_
    refine xY (i := 1) (op := .load _ _) rfl (by (exact y_loadA rfl rfl rfl)) rfl rfl rfl rfl (by kernel_rfl) ?_
    refine xAll (rs := [2, 7]) (by kernel_rfl) rfl ⟨?_, ?_, trivial⟩
    · refine iC rfl Try.func43 rfl rfl nB rfl (by repeat (first | exact .refl _ | apply Les.cons | exact .nil)) rfl rfl ?_
      refine xAll (rs := [3, 7]) (by kernel_rfl) rfl ⟨?_, ?_, trivial⟩
      · refine iC rfl Try.func40 rfl rfl aAnB rfl (by repeat (first | exact .refl _ | exact .tag _ _ | apply Le.ag | apply Les.cons | exact .nil)) rfl rfl ?_
        refine xY (i := 4) (op := .move _) rfl (by (exact y_move rfl)) rfl rfl rfl rfl (by kernel_rfl) ?_
        refine xY (i := 5) (op := .extract _ _) rfl (by (exact y_extract rfl rfl)) rfl rfl rfl rfl (by kernel_rfl) ?_
        refine xY (i := 6) (op := .extract _ _) rfl (by (exact y_extract rfl rfl)) rfl rfl rfl rfl (by kernel_rfl) ?_
        refine xAll (rs := [7]) (by kernel_rfl) rfl ⟨?_, trivial⟩
        · (refine iE rfl (e_alloc rfl rfl rfl) rfl rfl ?_)
          refine xAll (rs := [8]) (by kernel_rfl) rfl ⟨?_, trivial⟩
          · (refine iE rfl (e_store rfl rfl rfl rfl rfl rfl rfl) rfl rfl ?_)
            refine xY (i := 9) (op := .assign _) rfl (by (exact y_assign rfl)) rfl rfl rfl rfl (by kernel_rfl) ?_
            exact xEnd (by kernel_rfl) ⟨rfl, by (repeat (first | exact sub_nil | refine sub_cons rfl ?_)), by (repeat (first | exact subH_nil | refine subH_cons rfl ?_))⟩
      · (refine iE rfl (e_alloc rfl rfl rfl) rfl rfl ?_)
        refine xAll (rs := [3]) (by kernel_rfl) rfl ⟨?_, trivial⟩
        · refine iC rfl Try.func40 rfl rfl aAnB rfl (by repeat (first | exact .refl _ | exact .tag _ _ | apply Le.ag | apply Les.cons | exact .nil)) rfl rfl ?_
          refine xY (i := 4) (op := .move _) rfl (by (exact y_move rfl)) rfl rfl rfl rfl (by kernel_rfl) ?_
          refine xY (i := 5) (op := .extract _ _) rfl (by (exact y_extract rfl rfl)) rfl rfl rfl rfl (by kernel_rfl) ?_
          refine xY (i := 6) (op := .extract _ _) rfl (by (exact y_extract rfl rfl)) rfl rfl rfl rfl (by kernel_rfl) ?_
          refine xAll (rs := [8]) (by kernel_rfl) rfl ⟨?_, trivial⟩
          · (refine iE rfl (e_store rfl rfl rfl rfl rfl rfl rfl) rfl rfl ?_)
            refine xY (i := 9) (op := .assign _) rfl (by (exact y_assign rfl)) rfl rfl rfl rfl (by kernel_rfl) ?_
            exact xEnd (by kernel_rfl) ⟨rfl, by (repeat (first | exact sub_nil | refine sub_cons rfl ?_)), by (repeat (first | exact subH_nil | refine subH_cons rfl ?_))⟩
    · (refine iE rfl (e_alloc rfl rfl rfl) rfl rfl ?_)
      refine xAll (rs := [2]) (by kernel_rfl) rfl ⟨?_, trivial⟩
      · refine iC rfl Try.func43 rfl rfl nB rfl (by repeat (first | exact .refl _ | apply Les.cons | exact .nil)) rfl rfl ?_
        refine xAll (rs := [3]) (by kernel_rfl) rfl ⟨?_, trivial⟩
        · refine iC rfl Try.func40 rfl rfl aAnB rfl (by repeat (first | exact .refl _ | exact .tag _ _ | apply Le.ag | apply Les.cons | exact .nil)) rfl rfl ?_
          refine xY (i := 4) (op := .move _) rfl (by (exact y_move rfl)) rfl rfl rfl rfl (by kernel_rfl) ?_
          refine xY (i := 5) (op := .extract _ _) rfl (by (exact y_extract rfl rfl)) rfl rfl rfl rfl (by kernel_rfl) ?_
          refine xY (i := 6) (op := .extract _ _) rfl (by (exact y_extract rfl rfl)) rfl rfl rfl rfl (by kernel_rfl) ?_
          refine xAll (rs := [8]) (by kernel_rfl) rfl ⟨?_, trivial⟩
          · (refine iE rfl (e_store rfl rfl rfl rfl rfl rfl rfl) rfl rfl ?_)
            refine xY (i := 9) (op := .assign _) rfl (by (exact y_assign rfl)) rfl rfl rfl rfl (by kernel_rfl) ?_
            exact xEnd (by kernel_rfl) ⟨rfl, by (repeat (first | exact sub_nil | refine sub_cons rfl ?_)), by (repeat (first | exact subH_nil | refine subH_cons rfl ?_))⟩
  repeat (refine seq_ ?_)
  refine cut_ [(3, .ptr 3 0), (33, .ptr 33 0), (34, .p (E_ n)), (35, .ptr 35 0), (36, .p (E_ n)), (37, .ptr 37 0), (38, .p (E_ 0))] [(3, .bx (cI A)), (33, .bx (cF d)), (35, .bx (cF d)), (37, .bx (cF 0))] ?_ ?_
  · refine xDraw 1000 [3] mixed ?_
    refine xY (i := 0) (op := .load _ _) rfl (by (exact y_loadA rfl rfl rfl)) rfl rfl rfl rfl (by kernel_rfl) ?_
    refine xY (i := 1) (op := .load _ _) rfl (by (exact y_loadA rfl rfl rfl)) rfl rfl rfl rfl (by kernel_rfl) ?_
    refine xAll (rs := [2, 7]) (by kernel_rfl) rfl ⟨?_, ?_, trivial⟩
    · refine iC rfl Try.func43 rfl rfl nA rfl (by repeat (first | exact .refl _ | apply Les.cons | exact .nil)) rfl rfl ?_
      refine xAll (rs := [3, 7]) (by kernel_rfl) rfl ⟨?_, ?_, trivial⟩
      · refine iC rfl Try.func40 rfl rfl aAnA rfl (by repeat (first | exact .refl _ | exact .tag _ _ | apply Le.ag | apply Les.cons | exact .nil)) rfl rfl ?_
        refine xY (i := 4) (op := .move _) rfl (by (exact y_move rfl)) rfl rfl rfl rfl (by kernel_rfl) ?_
        refine xY (i := 5) (op := .extract _ _) rfl (by (exact y_extract rfl rfl)) rfl rfl rfl rfl (by kernel_rfl) ?_
        refine xY (i := 6) (op := .extract _ _) rfl (by (exact y_extract rfl rfl)) rfl rfl rfl rfl (by kernel_rfl) ?_
        refine xAll (rs := [7]) (by kernel_rfl) rfl ⟨?_, trivial⟩
        · (refine iE rfl (e_alloc rfl rfl rfl) rfl rfl ?_)
          refine xAll (rs := [8]) (by kernel_rfl) rfl ⟨?_, trivial⟩
          · (refine iE rfl (e_store rfl rfl rfl rfl rfl rfl rfl) rfl rfl ?_)
            refine xY (i := 9) (op := .assign _) rfl (by (exact y_assign rfl)) rfl rfl rfl rfl (by kernel_rfl) ?_
            exact xEnd (by kernel_rfl) ⟨rfl, by (repeat (first | exact sub_nil | refine sub_cons rfl ?_)), by (repeat (first | exact subH_nil | refine subH_cons rfl ?_))⟩
      · (refine iE rfl (e_alloc rfl rfl rfl) rfl rfl ?_)
        refine xAll (rs := [3]) (by kernel_rfl) rfl ⟨?_, trivial⟩
        · refine iC rfl Try.func40 rfl rfl aAnA rfl (by repeat (first | exact .refl _ | exact .tag _ _ | apply Le.ag | apply Les.cons | exact .nil)) rfl rfl ?_
          refine xY (i := 4) (op := .move _) rfl (by (exact y_move rfl)) rfl rfl rfl rfl (by kernel_rfl) ?_
          refine xY (i := 5) (op := .extract _ _) rfl (by (exact y_extract rfl rfl)) rfl rfl rfl rfl (by kernel_rfl) ?_
          refine xY (i := 6) (op := .extract _ _) rfl (by (exact y_extract rfl rfl)) rfl rfl rfl rfl (by kernel_rfl) ?_
          refine xAll (rs := [8]) (by kernel_rfl) rfl ⟨?_, trivial⟩
          · (refine iE rfl (e_store rfl rfl rfl rfl rfl rfl rfl) rfl rfl ?_)
            refine xY (i := 9) (op := .assign _) rfl (by (exact y_assign rfl)) rfl rfl rfl rfl (by kernel_rfl) ?_
            exact xEnd (by kernel_rfl) ⟨rfl, by (repeat (first | exact sub_nil | refine sub_cons rfl ?_)), by (repeat (first | exact subH_nil | refine subH_cons rfl ?_))⟩
    · (refine iE rfl (e_alloc rfl rfl rfl) rfl rfl ?_)
      refine xAll (rs := [2]) (by kernel_rfl) rfl ⟨?_, trivial⟩
      · refine iC rfl Try.func43 rfl rfl nA rfl (by repeat (first | exact .refl _ | apply Les.cons | exact .nil)) rfl rfl ?_
        refine xAll (rs := [3]) (by kernel_rfl) rfl ⟨?_, trivial⟩
        · refine iC rfl Try.func40 rfl rfl aAnA rfl (by repeat (first | exact .refl _ | exact .tag _ _ | apply Le.ag | apply Les.cons | exact .nil)) rfl rfl ?_
          refine xY (i := 4) (op := .move _) rfl (by (exact y_move rfl)) rfl rfl rfl rfl (by kernel_rfl) ?_
          refine xY (i := 5) (op := .extract _ _) rfl (by (exact y_extract rfl rfl)) rfl rfl rfl rfl (by kernel_rfl) ?_
          refine xY (i := 6) (op := .extract _ _) rfl (by (exact y_extract rfl rfl)) rfl rfl rfl rfl (by kernel_rfl) ?_
          refine xAll (rs := [8]) (by kernel_rfl) rfl ⟨?_, trivial⟩
          · (refine iE rfl (e_store rfl rfl rfl rfl rfl rfl rfl) rfl rfl ?_)
            refine xY (i := 9) (op := .assign _) rfl (by (exact y_assign rfl)) rfl rfl rfl rfl (by kernel_rfl) ?_
            exact xEnd (by kernel_rfl) ⟨rfl, by (repeat (first | exact sub_nil | refine sub_cons rfl ?_)), by (repeat (first | exact subH_nil | refine subH_cons rfl ?_))⟩
  repeat (refine seq_ ?_)
  refine cut_ [(3, .ptr 3 0), (33, .ptr 33 0), (34, .p (E_ n)), (35, .ptr 35 0), (36, .p (E_ n)), (37, .ptr 37 0), (38, .p (E_ 0)), (39, .ptr 39 0), (40, .p (E_ 0))] [(3, .bx (cI A)), (33, .bx (cF d)), (35, .bx (cF d)), (37, .bx (cF 0)), (39, .bx (cF A))] ?_ ?_
  · refine xDraw 1000 [3] mixed ?_
    refine xY (i := 0) (op := .load _ _) rfl (by (exact y_loadA rfl rfl rfl)) rfl rfl rfl rfl (by kernel_rfl) ?_
    refine xAll (rs := [1, 6]) (by kernel_rfl) rfl ⟨?_, ?_, trivial⟩
    · refine iC rfl Try.func30 rfl rfl f1 rfl (by repeat (first | exact .refl _ | apply Les.cons | exact .nil)) rfl rfl ?_
      refine xAll (rs := [2, 6]) (by kernel_rfl) rfl ⟨?_, ?_, trivial⟩
      · refine iC rfl Try.func27 rfl rfl mA1 rfl (by repeat (first | exact .refl _ | exact .tag _ _ | apply Le.ag | apply Les.cons | exact .nil)) rfl rfl ?_
        refine xY (i := 3) (op := .move _) rfl (by (exact y_move rfl)) rfl rfl rfl rfl (by kernel_rfl) ?_
        refine xY (i := 4) (op := .extract _ _) rfl (by (exact y_extract rfl rfl)) rfl rfl rfl rfl (by kernel_rfl) ?_
        refine xY (i := 5) (op := .extract _ _) rfl (by (exact y_extract rfl rfl)) rfl rfl rfl rfl (by kernel_rfl) ?_
        refine xAll (rs := [6]) (by kernel_rfl) rfl ⟨?_, trivial⟩
        · (refine iE rfl (e_alloc rfl rfl rfl) rfl rfl ?_)
          refine xAll (rs := [7]) (by kernel_rfl) rfl ⟨?_, trivial⟩
          · (refine iE rfl (e_store rfl rfl rfl rfl rfl rfl rfl) rfl rfl ?_)
            refine xY (i := 8) (op := .assign _) rfl (by (exact y_assign rfl)) rfl rfl rfl rfl (by kernel_rfl) ?_
            exact xEnd (by kernel_rfl) ⟨rfl, by (repeat (first | exact sub_nil | refine sub_cons rfl ?_)), by (repeat (first | exact subH_nil | refine subH_cons rfl ?_))⟩
      · (refine iE rfl (e_alloc rfl rfl rfl) rfl rfl ?_)
        refine xAll (rs := [2]) (by kernel_rfl) rfl ⟨?_, trivial⟩
        · refine iC rfl Try.func27 rfl rfl mA1 rfl (by repeat (first | exact .refl _ | exact .tag _ _ | apply Le.ag | apply Les.cons | exact .nil)) rfl rfl ?_
          refine xY (i := 3) (op := .move _) rfl (by (exact y_move rfl)) rfl rfl rfl rfl (by kernel_rfl) ?_
          refine xY (i := 4) (op := .extract _ _) rfl (by (exact y_extract rfl rfl)) rfl rfl rfl rfl (by kernel_rfl) ?_
          refine xY (i := 5) (op := .extract _ _) rfl (by (exact y_extract rfl rfl)) rfl rfl rfl rfl (by kernel_rfl) ?_
          refine xAll (rs := [7]) (by kernel_rfl) rfl ⟨?_, trivial⟩
          · (refine iE rfl (e_store rfl rfl rfl rfl rfl rfl rfl) rfl rfl ?_)
            refine xY (i := 8) (op := .assign _) rfl (by (exact y_assign rfl)) rfl rfl rfl rfl (by kernel_rfl) ?_
            exact xEnd (by kernel_rfl) ⟨rfl, by (repeat (first | exact sub_nil | refine sub_cons rfl ?_)), by (repeat (first | exact subH_nil | refine subH_cons rfl ?_))⟩
    · (refine iE rfl (e_alloc rfl rfl rfl) rfl rfl ?_)
      refine xAll (rs := [1]) (by kernel_rfl) rfl ⟨?_, trivial⟩
      · refine iC rfl Try.func30 rfl rfl f1 rfl (by repeat (first | exact .refl _ | apply Les.cons | exact .nil)) rfl rfl ?_
        refine xAll (rs := [2]) (by kernel_rfl) rfl ⟨?_, trivial⟩
        · refine iC rfl Try.func27 rfl rfl mA1 rfl (by repeat (first | exact .refl _ | exact .tag _ _ | apply Le.ag | apply Les.cons | exact .nil)) rfl rfl ?_
          refine xY (i := 3) (op := .move _) rfl (by (exact y_move rfl)) rfl rfl rfl rfl (by kernel_rfl) ?_
          refine xY (i := 4) (op := .extract _ _) rfl (by (exact y_extract rfl rfl)) rfl rfl rfl rfl (by kernel_rfl) ?_
          refine xY (i := 5) (op := .extract _ _) rfl (by (exact y_extract rfl rfl)) rfl rfl rfl rfl (by kernel_rfl) ?_
          refine xAll (rs := [7]) (by kernel_rfl) rfl ⟨?_, trivial⟩
          · (refine iE rfl (e_store rfl rfl rfl rfl rfl rfl rfl) rfl rfl ?_)
            refine xY (i := 8) (op := .assign _) rfl (by (exact y_assign rfl)) rfl rfl rfl rfl (by kernel_rfl) ?_
            exact xEnd (by kernel_rfl) ⟨rfl, by (repeat (first | exact sub_nil | refine sub_cons rfl ?_)), by (repeat (first | exact subH_nil | refine subH_cons rfl ?_))⟩
  repeat (refine seq_ ?_)
  refine cut_ [(3, .ptr 3 0), (33, .ptr 33 0), (34, .p (E_ n)), (35, .ptr 35 0), (36, .p (E_ n)), (37, .ptr 37 0), (38, .p (E_ 0)), (39, .ptr 39 0), (40, .p (E_ 0)), (41, .ptr 41 0), (42, .p (E_ 0))] [(3, .bx (cI A)), (33, .bx (cF d)), (35, .bx (cF d)), (37, .bx (cF 0)), (39, .bx (cF A)), (41, .bx (cF A))] ?_ ?_
  · refine xDraw 1000 [3] mixed ?_
    refine xY (i := 0) (op := .load _ _) rfl (by (exact y_loadA rfl rfl rfl)) rfl rfl rfl rfl (by kernel_rfl) ?_
    refine xAll (rs := [1, 6]) (by kernel_rfl) rfl ⟨?_, ?_, trivial⟩
    · refine iC rfl Try.func30 rfl rfl f0 rfl (by repeat (first | exact .refl _ | apply Les.cons | exact .nil)) rfl rfl ?_
      refine xAll (rs := [2, 6]) (by kernel_rfl) rfl ⟨?_, ?_, trivial⟩
      · refine iC rfl Try.func40 rfl rfl aA0 rfl (by repeat (first | exact .refl _ | exact .tag _ _ | apply Le.ag | apply Les.cons | exact .nil)) rfl rfl ?_
        refine xY (i := 3) (op := .move _) rfl (by (exact y_move rfl)) rfl rfl rfl rfl (by kernel_rfl) ?_
        refine xY (i := 4) (op := .extract _ _) rfl (by (exact y_extract rfl rfl)) rfl rfl rfl rfl (by kernel_rfl) ?_
        refine xY (i := 5) (op := .extract _ _) rfl (by (exact y_extract rfl rfl)) rfl rfl rfl rfl (by kernel_rfl) ?_
        refine xAll (rs := [6]) (by kernel_rfl) rfl ⟨?_, trivial⟩
        · (refine iE rfl (e_alloc rfl rfl rfl) rfl rfl ?_)
          refine xAll (rs := [7]) (by kernel_rfl) rfl ⟨?_, trivial⟩
          · (refine iE rfl (e_store rfl rfl rfl rfl rfl rfl rfl) rfl rfl ?_)
            refine xY (i := 8) (op := .assign _) rfl (by (exact y_assign rfl)) rfl rfl rfl rfl (by kernel_rfl) ?_
            exact xEnd (by kernel_rfl) ⟨rfl, by (repeat (first | exact sub_nil | refine sub_cons rfl ?_)), by (repeat (first | exact subH_nil | refine subH_cons rfl ?_))⟩
      · (refine iE rfl (e_alloc rfl rfl rfl) rfl rfl ?_)
        refine xAll (rs := [2]) (by kernel_rfl) rfl ⟨?_, trivial⟩
        · refine iC rfl Try.func40 rfl rfl aA0 rfl (by repeat (first | exact .refl _ | exact .tag _ _ | apply Le.ag | apply Les.cons | exact .nil)) rfl rfl ?_
          refine xY (i := 3) (op := .move _) rfl (by (exact y_move rfl)) rfl rfl rfl rfl (by kernel_rfl) ?_
          refine xY (i := 4) (op := .extract _ _) rfl (by (exact y_extract rfl rfl)) rfl rfl rfl rfl (by kernel_rfl) ?_
          refine xY (i := 5) (op := .extract _ _) rfl (by (exact y_extract rfl rfl)) rfl rfl rfl rfl (by kernel_rfl) ?_
          refine xAll (rs := [7]) (by kernel_rfl) rfl ⟨?_, trivial⟩
          · (refine iE rfl (e_store rfl rfl rfl rfl rfl rfl rfl) rfl rfl ?_)
            refine xY (i := 8) (op := .assign _) rfl (by (exact y_assign rfl)) rfl rfl rfl rfl (by kernel_rfl) ?_
            exact xEnd (by kernel_rfl) ⟨rfl, by (repeat (first | exact sub_nil | refine sub_cons rfl ?_)), by (repeat (first | exact subH_nil | refine subH_cons rfl ?_))⟩
    · (refine iE rfl (e_alloc rfl rfl rfl) rfl rfl ?_)
      refine xAll (rs := [1]) (by kernel_rfl) rfl ⟨?_, trivial⟩
      · refine iC rfl Try.func30 rfl rfl f0 rfl (by repeat (first | exact .refl _ | apply Les.cons | exact .nil)) rfl rfl ?_
        refine xAll (rs := [2]) (by kernel_rfl) rfl ⟨?_, trivial⟩
        · refine iC rfl Try.func40 rfl rfl aA0 rfl (by repeat (first | exact .refl _ | exact .tag _ _ | apply Le.ag | apply Les.cons | exact .nil)) rfl rfl ?_
          refine xY (i := 3) (op := .move _) rfl (by (exact y_move rfl)) rfl rfl rfl rfl (by kernel_rfl) ?_
          refine xY (i := 4) (op := .extract _ _) rfl (by (exact y_extract rfl rfl)) rfl rfl rfl rfl (by kernel_rfl) ?_
          refine xY (i := 5) (op := .extract _ _) rfl (by (exact y_extract rfl rfl)) rfl rfl rfl rfl (by kernel_rfl) ?_
          refine xAll (rs := [7]) (by kernel_rfl) rfl ⟨?_, trivial⟩
          · (refine iE rfl (e_store rfl rfl rfl rfl rfl rfl rfl) rfl rfl ?_)
            refine xY (i := 8) (op := .assign _) rfl (by (exact y_assign rfl)) rfl rfl rfl rfl (by kernel_rfl) ?_
            exact xEnd (by kernel_rfl) ⟨rfl, by (repeat (first | exact sub_nil | refine sub_cons rfl ?_)), by (repeat (first | exact subH_nil | refine subH_cons rfl ?_))⟩
  repeat (first | refine seq_ ?_ | refine region_ ?_ | refine stepY (y_loadA rfl rfl rfl) rfl ?_)
  refine call_ Try.func19 rfl rfl sd rfl (by repeat (first | exact .refl _ | exact .tag _ _ | apply Le.ag | apply Les.cons | exact .nil)) rfl ?_
  repeat (first | refine guard_t rfl rfl rfl ?_ | refine stepY (y_move rfl) rfl ?_ | (first | refine stepY (y_load1 rfl rfl rfl) rfl ?_ | refine stepY (y_loadA rfl rfl rfl) rfl ?_) | refine stepY (y_fieldAddr rfl) rfl ?_ | refine stepY (y_len_si rfl) rfl ?_ | refine stepY (y_pick_t rfl rfl) rfl ?_ | refine stepY (y_cmpT rfl rfl rfl (by omega)) rfl ?_)
  refine call_ Try.func19 rfl rfl sA rfl (by repeat (first | exact .refl _ | exact .tag _ _ | apply Le.ag | apply Les.cons | exact .nil)) rfl ?_
  repeat (first | refine guard_t rfl rfl rfl ?_ | refine stepY (y_move rfl) rfl ?_ | refine stepY (y_loadA rfl rfl rfl) rfl ?_ | refine stepY (y_pick_t rfl rfl) rfl ?_ | refine stepY (y_cmpT rfl rfl rfl (by omega)) rfl ?_)
  refine call_ Try.func19 rfl rfl sA rfl (by repeat (first | exact .refl _ | exact .tag _ _ | apply Le.ag | apply Les.cons | exact .nil)) rfl ?_
  repeat (first | refine guard_t rfl rfl rfl ?_ | refine stepY (y_move rfl) rfl ?_ | refine stepY (y_pick_t rfl rfl) rfl ?_ | refine stepY (y_cmpT rfl rfl rfl (by omega)) rfl ?_)
  refine call_ Try.func20 rfl rfl examples_c rfl (by repeat (exact .nil)) rfl ?_
  repeat (first | refine nil_ ?_ | refine ret_ ?_ | refine stepY (y_assign rfl) rfl ?_ | refine stepY (y_pick_t rfl rfl) rfl ?_)
  ((apply fin_r); (repeat (first | exact .nil | exact .tmp rfl | apply ResL.cons)); (repeat (exact .refl _)))
theorem Ring_c (p q o : Bool) (l k j : List Int) (hl : wf l) (hk : wf k) (hj : wf j) : Con Try.prog 10 [AV p l, AV q k, AV o j] (Bo true) := by
  cases hv : vldB p l && vldB q k && vldB o j with
  | false => exact Ring_e p q o l k j hv
  | true =>
    simp only [Bool.and_eq_true] at hv
    obtain ⟨x, ex, hx⟩ := norm_z hl hv.1.1
    obtain ⟨y, ey, hy⟩ := norm_z hk hv.1.2
    obtain ⟨z, ez, hz⟩ := norm_z hj hv.2
    rw [ex, ey, ez]
    exact Ring_z x y z hx hy hz
end Go.Av
