import Derived.Test.YtckngipgcnhfpaaWh
import Derived.Test.YtckngipgcnhfpaaWc
import Derived.Test.YtckngipgcnhfpaaPa
set_option maxHeartbeats 16000000
set_option exponentiation.threshold 100000
set_option maxRecDepth 100000
set_option linter.unusedVariables false
set_option linter.unusedSimpArgs false
namespace Go.Av
open Go Go.Proofs
/-! BigintRoundTrips -/
theorem prV_ex2 (r : Option (Option (Bool × Nat))) : ∃ a e : Int, prV r = .tp [FIV a, E_ e] := by
  match r with
  | none => exact ⟨0, 4, rfl⟩
  | some none => exact ⟨0, 9, rfl⟩
  | some (some (g, n)) => exact ⟨_, 0, rfl⟩
theorem RoundTrips_e (p : Bool) (l : List Int) (n : Int) (hv : vldB p l = false) : Con Try.prog 12 [AV p l, .v (.int .u16 n)] (Bo true) := by
  refine con_of Try.func12 rfl rfl rfl rfl rfl ?_
  have v1 := Valid_c p l
  rw [hv] at v1
  have f1 := Format_e p l hv
  have he : decide ((⟨#[]⟩ : ByteArray) = ⟨#[]⟩) = true := decide_eq_true rfl
  repeat (first | refine seq_ ?_ | refine region_ ?_ | refine nil_ ?_ | refine stepY (y_assign rfl) rfl ?_ | refine stepY (y_loadA rfl rfl rfl) rfl ?_ | refine stepE (e_box rfl rfl rfl rfl rfl rfl) ?_)
  refine call_ Try.func29 rfl rfl v1 rfl (by repeat (first | exact .refl _ | apply Les.cons | exact .nil)) rfl ?_
  repeat (first | refine seq_ ?_ | refine region_ ?_ | refine nil_ ?_ | refine cond_t rfl ?_ | refine stepY (y_loadA rfl rfl rfl) rfl ?_ | refine stepY (y_not rfl) rfl ?_)
  refine call_ Try.func25 rfl rfl f1 rfl (by repeat (first | exact .refl _ | apply Les.cons | exact .nil)) rfl ?_
  repeat (first | refine guard_t rfl rfl rfl ?_ | refine stepY (y_move rfl) rfl ?_ | refine stepY (y_eqs rfl rfl) rfl ?_)
  refine call_ Try.func20 rfl rfl examples_c rfl (by repeat (exact .nil)) rfl ?_
  repeat (first | refine nil_ ?_ | refine ret_ ?_ | refine stepY (y_assign rfl) rfl ?_ | refine stepY (y_pick_t rfl rfl) rfl ?_)
  ((apply fin_r); (repeat (first | exact .nil | exact .tmp rfl | apply ResL.cons)); (repeat (exact .refl _)))
theorem RoundTrips_s (p : Bool) (m : Nat) (n : Int) (hp : vldB p (limbs m) = true) (hn : 0 ≤ n ∧ n ≤ 65535) : Con Try.prog 12 [SV p m, .v (.int .u16 n)] (Bo true) := by
  refine con_of Try.func12 rfl rfl rfl rfl rfl ?_
  have v1 := Valid_c p (limbs m)
  rw [hp] at v1
  have hlm := vld_ln hp
  have hzl : ln (sgn p m).natAbs ≤ 512 := by rw [sgn_abs]; exact hlm
  have hA : SV p m = IV (sgn p m) := by
    have h2 : AV p (limbs m) = IV (sgn p (val (limbs m))) := (iv_vld (wf_limbs m) hp).1
    rwa [val_limbs] at h2
  have sA : Con Try.prog 19 [SV p m, IV (sgn p m)] (Bo true) := by
    have h1 := same_r (sgn p m)
    rw [show [SV p m, IV (sgn p m)] = [IV (sgn p m), IV (sgn p m)] by rw [hA]]
    exact h1
  have sB : Con Try.prog 19 [IV (sgn p m), SV p m] (Bo true) := by
    have h1 := same_r (sgn p m)
    rw [show [IV (sgn p m), SV p m] = [IV (sgn p m), IV (sgn p m)] by rw [hA]]
    exact h1
  have f1 := Format_s p m hp
  have hsz := fmt_size (p := p) (m := m)
  have hne : decide (fmt p m = (⟨#[]⟩ : ByteArray)) = false := decide_eq_false (fun e => by rw [e] at hsz; exact absurd hsz (by decide))
  have p1 := Parse_c (fmt p m)
  have hpar : (fmt p m).size ≤ 4096 → prV (prT (negS (fmt p m)) (tS (fmt p m))) = .tp [FIV (sgn p m), E_ 0] := fun h => by rw [read_back (vld_pos hp) h]; rfl
  obtain ⟨ya, ye, hye⟩ := prV_ex2 (prT (negS (fmt p m)) (tS (fmt p m)))
  rw [hye] at p1
  have hpar2 : (fmt p m).size ≤ 4096 → ya = sgn p m ∧ ye = 0 := fun h => by
    have h1 := hpar h
    rw [hye] at h1
    simp only [PV.tp.injEq, List.cons.injEq, PV.ag.injEq, PV.v.injEq, Value.bool.injEq, PV.si.injEq, Value.int.injEq, and_true, true_and] at h1
    refine ⟨?_, h1.2⟩
    have h2 := limbs_inj h1.1.2
    have h3 : (ya < 0) ↔ (sgn p m < 0) := decide_eq_decide.1 h1.1.1
    omega
  have t1 := ToInt_s p m hp
  generalize fmt p m = s at *
  repeat (first | refine seq_ ?_ | refine region_ ?_ | refine nil_ ?_ | refine stepY (y_assign rfl) rfl ?_ | refine stepY (y_loadA rfl rfl rfl) rfl ?_ | refine stepE (e_box rfl rfl rfl rfl rfl rfl) ?_)
  refine call_ Try.func29 rfl rfl v1 rfl (by repeat (first | exact .refl _ | apply Les.cons | exact .nil)) rfl ?_
  repeat (first | refine seq_ ?_ | refine region_ ?_ | refine nil_ ?_ | refine skip_ ?_ | refine cond_f rfl ?_ | refine stepY (y_loadA rfl rfl rfl) rfl ?_ | refine stepY (y_not rfl) rfl ?_)
  refine call_ Try.func25 rfl rfl f1 rfl (by repeat (first | exact .refl _ | apply Les.cons | exact .nil)) rfl ?_
  repeat (first | refine seq_ ?_ | refine region_ ?_ | refine nil_ ?_ | refine stepY (y_move rfl) rfl ?_ | refine stepY (y_assign rfl) rfl ?_)
  refine call_ Try.func23 rfl rfl p1 rfl (by repeat (first | exact .refl _ | apply Les.cons | exact .nil)) rfl ?_
  repeat (first | refine nil_ ?_ | refine stepY (y_move rfl) rfl ?_ | refine stepY (y_assign rfl) rfl ?_ | refine stepY (y_extract rfl rfl) rfl ?_ | refine stepE (e_alloc rfl rfl rfl) ?_ | refine stepE (e_store rfl rfl rfl rfl rfl rfl rfl) ?_)
  refine seq_ (cut_ [(1, .p (.v (.int .u16 n))), (2, .ptr 2 0)] [(2, .bx [Bo p, M m])] ?_ ?_)
  · by_cases h4 : s.size ≤ 4096
    · obtain ⟨rfl, rfl⟩ := hpar2 h4
      repeat (first | refine seq_ ?_ | refine region_ ?_ | refine guard_t rfl rfl rfl ?_ | refine stepY (y_move rfl) rfl ?_ | refine stepY (y_loadA rfl rfl rfl) rfl ?_ | refine stepY (y_len_str rfl) rfl ?_ | refine stepY (y_cmpF rfl rfl rfl (by omega)) rfl ?_ | refine stepY (y_cmpT rfl rfl rfl (by omega)) rfl ?_)
      refine call_ Try.func19 rfl rfl sA rfl (by repeat (first | exact .refl _ | exact .tag _ _ | apply Le.ag | apply Les.cons | exact .nil)) rfl ?_
      repeat (first | refine nil_ ?_ | refine guard_t rfl rfl rfl ?_ | refine stepY (y_move rfl) rfl ?_ | refine stepY (y_not rfl) rfl ?_ | (first | refine stepY (y_pick_t rfl rfl) rfl ?_ | refine stepY (y_pick_f rfl rfl) rfl ?_) | refine stepY (y_eqs rfl rfl) rfl ?_)
      rw [hne]
      repeat (first | refine skip_ ?_ | refine cond_f rfl ?_)
      exact ⟨rfl, by (repeat (first | exact sub_nil | refine sub_cons rfl ?_)), by (repeat (first | exact subH_nil | refine subH_cons rfl ?_))⟩
    · repeat (first | refine seq_ ?_ | refine region_ ?_ | refine nil_ ?_ | refine guard_t rfl rfl rfl ?_ | refine guard_f rfl rfl rfl rfl ?_ | refine guard_u rfl rfl rfl ?_ | refine stepY (y_move rfl) rfl ?_ | refine stepY (y_len_str rfl) rfl ?_ | refine stepY (y_pick_f rfl rfl) rfl ?_ | refine stepY (y_eqs rfl rfl) rfl ?_ | refine stepY (y_cmpF rfl rfl rfl (by omega)) rfl ?_)
      rw [hne]
      repeat (first | refine skip_ ?_ | refine cond_f rfl ?_)
      exact ⟨rfl, by (repeat (first | exact sub_nil | refine sub_cons rfl ?_)), by (repeat (first | exact subH_nil | refine subH_cons rfl ?_))⟩
  refine seq_ (cut_ [(1, .p (.v (.int .u16 n))), (2, .ptr 2 0)] [(2, .bx [Bo p, M m])] ?_ ?_)
  · unfold tiV at t1
    by_cases hr : -9223372036854775808 ≤ sgn p m ∧ sgn p m ≤ 9223372036854775807
    · rw [if_pos hr] at t1
      have ff := FromInt_c _ hr
      repeat (first | refine seq_ ?_ | refine region_ ?_ | refine stepY (y_loadA rfl rfl rfl) rfl ?_)
      refine call_ Try.func31 rfl rfl t1 rfl (by repeat (first | exact .refl _ | apply Les.cons | exact .nil)) rfl ?_
      repeat (first | refine seq_ ?_ | refine nil_ ?_ | refine stepY (y_move rfl) rfl ?_ | refine stepY (y_assign rfl) rfl ?_ | refine stepY (y_extract rfl rfl) rfl ?_)
      refine draw_ [(0, true), (1, true), (2, true), (3, true), (5, true), (4, false), (6, false), (7, true), (8, true)] 1000 [2] mixed (by kernel_rfl) rfl ?_
      ((refine dY rfl (y_move rfl) rfl rfl rfl rfl ?_); refine dY rfl (y_cmpT rfl rfl rfl (by omega)) rfl rfl rfl rfl ?_; refine dY rfl (y_move rfl) rfl rfl rfl rfl ?_; refine dY rfl (y_move rfl) rfl rfl rfl rfl ?_; refine dY rfl (y_loadA rfl rfl rfl) rfl rfl rfl rfl ?_)
      refine dC rfl Try.func30 rfl rfl ff rfl (by repeat (first | exact .refl _ | apply Les.cons | exact .nil)) rfl rfl ?_
      skip
      refine dC rfl Try.func19 rfl rfl sB rfl (by repeat (first | exact .refl _ | exact .tag _ _ | apply Le.ag | apply Les.cons | exact .nil)) rfl rfl ?_
      ((refine dY rfl (y_not rfl) rfl rfl rfl rfl ?_); refine dY rfl (y_pick_t rfl rfl) rfl rfl rfl rfl ?_; refine dEnd ?_)
      repeat (first | refine skip_ ?_ | refine cond_f rfl ?_)
      exact ⟨rfl, by (repeat (first | exact sub_nil | refine sub_cons rfl ?_)), by (repeat (first | exact subH_nil | refine subH_cons rfl ?_))⟩
    · rw [if_neg hr] at t1
      repeat (first | refine seq_ ?_ | refine region_ ?_ | refine stepY (y_loadA rfl rfl rfl) rfl ?_)
      refine call_ Try.func31 rfl rfl t1 rfl (by repeat (first | exact .refl _ | apply Les.cons | exact .nil)) rfl ?_
      repeat (first | refine seq_ ?_ | refine nil_ ?_ | refine stepY (y_move rfl) rfl ?_ | refine stepY (y_assign rfl) rfl ?_ | refine stepY (y_extract rfl rfl) rfl ?_)
      refine draw_ [(0, true), (1, true), (2, true), (3, true), (5, true), (4, false), (6, false), (7, true), (8, true)] 1000 [2] mixed (by kernel_rfl) rfl ?_
      ((refine dY rfl (y_move rfl) rfl rfl rfl rfl ?_); refine dY rfl (y_cmpF rfl rfl rfl (by omega)) rfl rfl rfl rfl ?_; refine dY rfl (y_move rfl) rfl rfl rfl rfl ?_; (refine dSkip rfl rfl rfl rfl ?_); (refine dSkip rfl rfl rfl rfl ?_))
      refine dSkip1 rfl rfl rfl rfl ?_
      skip
      refine dSkip1 rfl rfl rfl rfl ?_
      ((refine dSkip rfl rfl rfl rfl ?_); refine dY rfl (y_pick_f rfl rfl) rfl rfl rfl rfl ?_; refine dEnd ?_)
      repeat (first | refine skip_ ?_ | refine cond_f rfl ?_)
      exact ⟨rfl, by (repeat (first | exact sub_nil | refine sub_cons rfl ?_)), by (repeat (first | exact subH_nil | refine subH_cons rfl ?_))⟩
  obtain ⟨b, hb⟩ : ∃ b : Nat, n % 65535 + 2 = b := ⟨(n % 65535 + 2).toNat, by omega⟩
  have hb2 : 2 ≤ b ∧ b ≤ 65536 := by omega
  cases p with
  | true =>
    have hdg := Digits_e true (limbs m) b (.inr (.inl rfl))
    repeat (first | refine seq_ ?_ | refine region_ ?_ | refine nil_ ?_ | refine stepY (y_move rfl) rfl ?_ | refine stepY (y_assign rfl) rfl ?_ | refine stepY (y_loadA rfl rfl rfl) rfl ?_ | refine stepY (y_convn rfl (by simp only [InK, loK, hiK]; omega)) rfl ?_ | refine stepY (y_binn rfl rfl rfl (by simp only [InK, loK, hiK]; omega)) rfl ?_ | refine stepY (y_remp rfl rfl (by omega) (by omega)) rfl ?_)
    rw [hb]
    refine call_ Try.func35 rfl rfl hdg rfl (by repeat (first | exact .refl _ | apply Les.cons | exact .nil)) rfl ?_
    repeat (first | refine seq_ ?_ | refine region_ ?_ | refine nil_ ?_ | refine cond_t rfl ?_ | refine guard_t rfl rfl rfl ?_ | refine guard_f rfl rfl rfl rfl ?_ | refine stepY (y_move rfl) rfl ?_ | refine stepY (y_assign rfl) rfl ?_ | refine stepY (y_load1 rfl rfl rfl) rfl ?_ | refine stepY (y_fieldAddr rfl) rfl ?_ | refine stepY (y_extract rfl rfl) rfl ?_ | refine stepY (y_pick_t rfl rfl) rfl ?_ | refine stepY (y_cmpT rfl rfl rfl (by omega)) rfl ?_ | refine stepY (y_cmpT rfl rfl rfl (by omega)) rfl ?_)
    refine call_ Try.func20 rfl rfl examples_c rfl (by repeat (exact .nil)) rfl ?_
    repeat (first | refine nil_ ?_ | refine ret_ ?_ | refine stepY (y_assign rfl) rfl ?_ | refine stepY (y_pick_t rfl rfl) rfl ?_)
    ((apply fin_r); (repeat (first | exact .nil | exact .tmp rfl | apply ResL.cons)); (repeat (exact .refl _)))
  | false =>
    have hdg := Digits_s m b hp hb2.1 hb2.2
    unfold dgR at hdg
    by_cases hm : m = 0
    · subst hm
      rw [if_pos rfl] at hdg
      have hfd := FromDigits_0 [0] b hb2 (by simp) (fun k hk => by
        have : k = 0 := by simpa using hk
        subst this
        have : rd [0] ((0 : Nat) : Int) = 0 := rfl
        rw [this]; omega)
      rw [show Go.Av.hp b [0] ([0] : List Int).length = 0 by simp [Go.Av.hp, rd], resI_ok (by decide)] at hfd
      have hl1 : ([0] : List Int).length = 1 := rfl
      have hr0 : rd [0] 0 = 0 := rfl
      rw [show sgn false 0 = ((0 : Nat) : Int) from rfl] at sB
      repeat (first | refine seq_ ?_ | refine region_ ?_ | refine nil_ ?_ | refine stepY (y_move rfl) rfl ?_ | refine stepY (y_assign rfl) rfl ?_ | refine stepY (y_loadA rfl rfl rfl) rfl ?_ | refine stepY (y_convn rfl (by simp only [InK, loK, hiK]; omega)) rfl ?_ | refine stepY (y_binn rfl rfl rfl (by simp only [InK, loK, hiK]; omega)) rfl ?_ | refine stepY (y_remp rfl rfl (by omega) (by omega)) rfl ?_)
      rw [hb]
      refine call_ Try.func35 rfl rfl hdg rfl (by repeat (first | exact .refl _ | apply Les.cons | exact .nil)) rfl ?_
      repeat (first | refine seq_ ?_ | refine region_ ?_ | refine nil_ ?_ | refine skip_ ?_ | refine cond_f rfl ?_ | refine stepY (y_move rfl) rfl ?_ | refine stepY (y_assign rfl) rfl ?_ | refine stepY (y_extract rfl rfl) rfl ?_ | refine stepY (y_cmpF rfl rfl rfl (by omega)) rfl ?_)
      refine call_ Try.func37 rfl rfl hfd rfl (by repeat (first | exact .refl _ | exact .tag _ _ | apply Les.cons | exact .nil)) rfl ?_
      repeat (first | refine seq_ ?_ | refine region_ ?_ | refine nil_ ?_ | refine guard_t rfl rfl rfl ?_ | refine stepY (y_move rfl) rfl ?_ | refine stepY (y_assign rfl) rfl ?_ | refine stepY (y_loadA rfl rfl rfl) rfl ?_ | refine stepY (y_extract rfl rfl) rfl ?_ | refine stepY (y_cmpT rfl rfl rfl (by omega)) rfl ?_ | refine stepE (e_alloc rfl rfl rfl) ?_ | refine stepE (e_store rfl rfl rfl rfl rfl rfl rfl) ?_)
      refine call_ Try.func19 rfl rfl sB rfl (by repeat (first | exact .refl _ | exact .tag _ _ | apply Le.ag | apply Les.cons | exact .nil)) rfl ?_
      repeat (first | refine guard_t rfl rfl rfl ?_ | refine stepY (y_move rfl) rfl ?_ | refine stepY (y_load_rc1 rfl rfl) rfl ?_ | refine stepY (y_len_si rfl) rfl ?_ | (first | refine stepY (y_pick_t rfl rfl) rfl ?_ | refine stepY (y_pick_f rfl rfl) rfl ?_) | refine stepY (y_index_si rfl rfl (by omega) (by omega)) rfl ?_ | refine stepY (y_cmpT rfl rfl rfl (by omega)) rfl ?_ | refine stepY (y_cmpF rfl rfl rfl (by omega)) rfl ?_ | refine stepY (y_cmpT rfl rfl rfl (by omega)) rfl ?_)
      refine call_ Try.func20 rfl rfl examples_c rfl (by repeat (exact .nil)) rfl ?_
      repeat (first | refine nil_ ?_ | refine ret_ ?_ | refine stepY (y_assign rfl) rfl ?_ | refine stepY (y_pick_t rfl rfl) rfl ?_)
      ((apply fin_r); (repeat (first | exact .nil | exact .tmp rfl | apply ResL.cons)); (repeat (exact .refl _)))
    · rw [if_neg hm] at hdg
      by_cases h4 : 4096 < (dI b m).length
      · rw [if_pos h4] at hdg
        repeat (first | refine seq_ ?_ | refine region_ ?_ | refine nil_ ?_ | refine stepY (y_move rfl) rfl ?_ | refine stepY (y_assign rfl) rfl ?_ | refine stepY (y_loadA rfl rfl rfl) rfl ?_ | refine stepY (y_convn rfl (by simp only [InK, loK, hiK]; omega)) rfl ?_ | refine stepY (y_binn rfl rfl rfl (by simp only [InK, loK, hiK]; omega)) rfl ?_ | refine stepY (y_remp rfl rfl (by omega) (by omega)) rfl ?_)
        rw [hb]
        refine call_ Try.func35 rfl rfl hdg rfl (by repeat (first | exact .refl _ | apply Les.cons | exact .nil)) rfl ?_
        repeat (first | refine seq_ ?_ | refine region_ ?_ | refine nil_ ?_ | refine cond_t rfl ?_ | refine guard_t rfl rfl rfl ?_ | refine guard_f rfl rfl rfl rfl ?_ | refine stepY (y_move rfl) rfl ?_ | refine stepY (y_assign rfl) rfl ?_ | refine stepY (y_load1 rfl rfl rfl) rfl ?_ | refine stepY (y_fieldAddr rfl) rfl ?_ | refine stepY (y_extract rfl rfl) rfl ?_ | refine stepY (y_pick_f rfl rfl) rfl ?_ | refine stepY (y_cmpT rfl rfl rfl (by omega)) rfl ?_ | refine stepY (y_cmpT rfl rfl rfl (by omega)) rfl ?_)
        refine call_ Try.func20 rfl rfl examples_c rfl (by repeat (exact .nil)) rfl ?_
        repeat (first | refine nil_ ?_ | refine ret_ ?_ | refine stepY (y_assign rfl) rfl ?_ | refine stepY (y_pick_t rfl rfl) rfl ?_)
        ((apply fin_r); (repeat (first | exact .nil | exact .tmp rfl | apply ResL.cons)); (repeat (exact .refl _)))
      · rw [if_neg h4] at hdg
        have hm0 := Nat.pos_of_ne_zero hm
        have hfd := FromDigits_0 (dI b m).reverse b hb2 (by rw [List.length_reverse]; omega) (ok_dI hb2.1 m)
        rw [hp_dI hb2.1, resI_ok (by rw [Int.natAbs_natCast]; exact hlm)] at hfd
        have htop := top_dI hb2.1 hm0
        have hlen : 0 < (dI b m).reverse.length := by rw [List.length_reverse, dI_pos hb2.1 hm0]; simp
        rw [show sgn false m = ((m : Nat) : Int) from rfl] at sB
        generalize (dI b m).reverse = L at *
        repeat (first | refine seq_ ?_ | refine region_ ?_ | refine nil_ ?_ | refine stepY (y_move rfl) rfl ?_ | refine stepY (y_assign rfl) rfl ?_ | refine stepY (y_loadA rfl rfl rfl) rfl ?_ | refine stepY (y_convn rfl (by simp only [InK, loK, hiK]; omega)) rfl ?_ | refine stepY (y_binn rfl rfl rfl (by simp only [InK, loK, hiK]; omega)) rfl ?_ | refine stepY (y_remp rfl rfl (by omega) (by omega)) rfl ?_)
        rw [hb]
        refine call_ Try.func35 rfl rfl hdg rfl (by repeat (first | exact .refl _ | apply Les.cons | exact .nil)) rfl ?_
        repeat (first | refine seq_ ?_ | refine region_ ?_ | refine nil_ ?_ | refine skip_ ?_ | refine cond_f rfl ?_ | refine stepY (y_move rfl) rfl ?_ | refine stepY (y_assign rfl) rfl ?_ | refine stepY (y_extract rfl rfl) rfl ?_ | refine stepY (y_cmpF rfl rfl rfl (by omega)) rfl ?_)
        refine call_ Try.func37 rfl rfl hfd rfl (by repeat (first | exact .refl _ | exact .tag _ _ | apply Les.cons | exact .nil)) rfl ?_
        repeat (first | refine seq_ ?_ | refine region_ ?_ | refine nil_ ?_ | refine guard_t rfl rfl rfl ?_ | refine stepY (y_move rfl) rfl ?_ | refine stepY (y_assign rfl) rfl ?_ | refine stepY (y_loadA rfl rfl rfl) rfl ?_ | refine stepY (y_extract rfl rfl) rfl ?_ | refine stepY (y_cmpT rfl rfl rfl (by omega)) rfl ?_ | refine stepE (e_alloc rfl rfl rfl) ?_ | refine stepE (e_store rfl rfl rfl rfl rfl rfl rfl) ?_)
        refine call_ Try.func19 rfl rfl sB rfl (by repeat (first | exact .refl _ | exact .tag _ _ | apply Le.ag | apply Les.cons | exact .nil)) rfl ?_
        repeat (first | refine guard_t rfl rfl rfl ?_ | refine guard_f rfl rfl rfl rfl ?_ | refine stepY (y_move rfl) rfl ?_ | refine stepY (y_load_rc1 rfl rfl) rfl ?_ | refine stepY (y_len_si rfl) rfl ?_ | refine stepY (y_pick_t rfl rfl) rfl ?_ | refine stepY (y_index_si rfl rfl (by omega) (by omega)) rfl ?_ | refine stepY (y_cmpT rfl rfl rfl (by omega)) rfl ?_ | refine stepY (y_cmpT rfl rfl rfl (by omega)) rfl ?_)
        refine call_ Try.func20 rfl rfl examples_c rfl (by repeat (exact .nil)) rfl ?_
        repeat (first | refine nil_ ?_ | refine ret_ ?_ | refine stepY (y_assign rfl) rfl ?_ | refine stepY (y_pick_t rfl rfl) rfl ?_)
        ((apply fin_r); (repeat (first | exact .nil | exact .tmp rfl | apply ResL.cons)); (repeat (exact .refl _)))
theorem RoundTrips_c (p : Bool) (l : List Int) (n : Int) (hl : wf l) (hn : 0 ≤ n ∧ n ≤ 65535) : Con Try.prog 12 [AV p l, .v (.int .u16 n)] (Bo true) := by
  cases hv : vldB p l with
  | false => exact RoundTrips_e p l n hv
  | true =>
    obtain ⟨m, rfl, hm⟩ := norm hl hv
    exact RoundTrips_s p m n hm hn
end Go.Av
