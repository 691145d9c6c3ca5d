/- Contracts behind a law: no conditions beyond those in each statement. -/
import Derived.Test.YtmaobhmoipegeaaGreatRd
set_option maxHeartbeats 8000000
set_option exponentiation.threshold 100000
set_option maxRecDepth 100000
set_option linter.unusedVariables false
set_option linter.unusedSimpArgs false
namespace Go.Av
open Go Go.Proofs
/-! What Format writes, Parse reads; FractionTexts -/
section
variable {P : Program} {E : Env} {H : Hp}
theorem y_nes {x y : Operand} {t t' ty : TypeId} {a b : ByteArray} (hx : evT E x = some (.p (.v (.string a)))) (hy : evT E y = some (.p (.v (.string b)))) : Yl P (.binOp .neq t x y t') ty E H (.p (.v (.bool (decide (a ≠ b))))) .no := by
  unfold Yl
  intro _ _ _ _ _ _ r
  refine ⟨.bool (decide (a ≠ b)), fun W _ _ _ _ _ => ?_, by simp [RelT, Rel]⟩
  simp only [execOp, ev_v r hx, ev_v r hy, eqGuard_at_string, Sem.run_bind, Sem.run_pure, Result.andThen_ok, binOp_string_neq, bytes_eq_iff]
  by_cases h : a = b
  · subst h; simp
  · simp [h]
end
theorem cut_is {s : ByteArray} {k : Nat} (h : k < s.size) (h1 : bt s k = 47) (h2 : ∀ j : Nat, j < k → bt s j ≠ 47) : cutAt s = k := by
  rcases Nat.lt_trichotomy (cutAt s) k with h3 | h3 | h3
  · exact absurd (cut_at (s := s) (by omega)) (h2 _ h3)
  · exact h3
  · exact absurd h1 (cut_lo h3)
theorem cut_no {s : ByteArray} (h2 : ∀ j : Nat, j < s.size → bt s j ≠ 47) : cutAt s = s.size := by
  have := cut_le s
  rcases Nat.lt_or_ge (cutAt s) s.size with h3 | h3
  · exact absurd (cut_at h3) (h2 _ h3)
  · omega
theorem dgT_mem {m : Nat} {x : Int} (h : x ∈ dgT m) : 48 ≤ x ∧ x ≤ 57 := by
  unfold dgT at h
  obtain ⟨d, hd, rfl⟩ := List.mem_map.1 h
  have := dI_bd (b := 10) (by decide) (List.mem_reverse.1 hd)
  omega
theorem fmt_bt {p : Bool} {m : Nat} {j : Nat} (h : j < (fmt p m).size) : bt (fmt p m) j ≠ 47 ∧ (p = false → 48 ≤ bt (fmt p m) j) := by
  unfold fmt at *
  by_cases hm : m = 0
  · rw [if_pos hm] at *
    have : j = 0 := by
      have : (ByteArray.mk #[48]).size = 1 := rfl
      omega
    subst this
    exact ⟨by decide, fun _ => by decide⟩
  · rw [if_neg hm] at *
    rw [strOfNums_size] at h
    rw [fmt_rev] at *
    have hmem := rd_mem h
    have hx : rd ((if p then [45] else []) ++ dgT m) j = 45 ∧ p = true ∨ (48 ≤ rd ((if p then [45] else []) ++ dgT m) j ∧ rd ((if p then [45] else []) ++ dgT m) j ≤ 57) := by
      rcases List.mem_append.1 hmem with h1 | h1
      · left
        cases p with
        | false => simp at h1
        | true => simp only [if_true, List.mem_singleton] at h1; exact ⟨h1, rfl⟩
      · exact .inr (dgT_mem h1)
    rw [bt_str h (by omega)]
    refine ⟨by omega, fun hp => ?_⟩
    subst hp
    rcases hx with ⟨_, h2⟩ | h2
    · cases h2
    · exact h2.1
theorem fmt_8 {p : Bool} {m : Nat} (h : ln m ≤ 8) : (fmt p m).size ≤ 300 := by
  unfold fmt
  split
  · decide
  · have := dI_len (b := 10) (by decide) h
    rw [strOfNums_size, List.length_reverse]
    unfold fmtL
    rw [List.length_append, List.length_map]
    split <;> simp <;> omega
theorem bt_left (a b : ByteArray) {j : Nat} (h : j < a.size) : bt (a ++ b) j = bt a j := by
  rw [bt_list, bt_list, ap_list, List.getD_eq_getElem?_getD, List.getD_eq_getElem?_getD, List.getElem?_append_left (by rw [ba_len]; exact h)]
theorem par_fmt (x : Rat) (hx : okQ x) (h1 : ln x.num.natAbs ≤ 8) (h2 : ln x.den ≤ 8) : parF (fmtQ (decide (x.num < 0)) x.num.natAbs x.den) = .tp [FQ x, E_ 0] := by
  have hm : decide (x.num < 0) = true → 0 < x.num.natAbs := fun h => by have := of_decide_eq_true h; omega
  have s1 := fmt_8 (p := decide (x.num < 0)) h1
  have s2 := fmt_8 (p := false) h2
  have r1 := read_back hm (by omega : (fmt (decide (x.num < 0)) x.num.natAbs).size ≤ 4096)
  have r2 := read_back (p := false) (m := x.den) (fun h => by cases h) (by omega)
  have hmk : ∀ d : Nat, d = x.den → resQ (Rat.divInt x.num (d : Int)) = .tp [FQ x, E_ 0] := fun d hd => by
    subst hd
    rw [show Rat.divInt x.num (x.den : Int) = x from Rat.mkRat_self x, resQ_ok hx]
  unfold fmtQ
  by_cases hd : x.den = 1
  · rw [if_pos hd]
    have hc : cutAt (fmt (decide (x.num < 0)) x.num.natAbs) = (fmt (decide (x.num < 0)) x.num.natAbs).size := cut_no fun j hj => (fmt_bt hj).1
    unfold parF
    rw [show topS (fmt (decide (x.num < 0)) x.num.natAbs) = fmt (decide (x.num < 0)) x.num.natAbs by unfold topS; rw [if_neg (by omega)]]
    rw [show PR (fmt (decide (x.num < 0)) x.num.natAbs) = some (some (decide (x.num < 0), x.num.natAbs)) from r1]
    dsimp only
    rw [if_neg (by omega), sgn_self]
    unfold ofR
    rw [if_neg (by omega)]
    exact hmk 1 hd.symm
  · rw [if_neg hd]
    generalize hA : fmt (decide (x.num < 0)) x.num.natAbs = A at *
    generalize hB : fmt false x.den = B at *
    have hAl := ba_len A
    have hBl := ba_len B
    have hsz : (A ++ ByteArray.mk #[47] ++ B).size = A.size + 1 + B.size := by
      rw [ByteArray.size_append, ByteArray.size_append]; rfl
    have hc : cutAt (A ++ ByteArray.mk #[47] ++ B) = A.size := by
      refine cut_is (by omega) ?_ (fun j hj => ?_)
      · rw [bt_list, ap_list, ap_list, List.getD_eq_getElem?_getD, List.append_assoc, List.getElem?_append_right (by omega), hAl]
        simp
      · rw [bt_left _ _ (by rw [ByteArray.size_append]; omega), bt_left _ _ hj]
        rw [← hA] at hj ⊢
        exact (fmt_bt hj).1
    have ht : topS (A ++ ByteArray.mk #[47] ++ B) = A := by
      unfold topS
      rw [if_pos (by omega), hc]
      apply ba_ext
      rw [ex_list, List.drop_zero, ap_list, ap_list, List.append_assoc, List.take_left' hAl]
    have hb : botS (A ++ ByteArray.mk #[47] ++ B) = B := by
      unfold botS
      rw [if_pos (by omega), hc]
      apply ba_ext
      rw [ex_list, ap_list, ap_list, hsz, List.take_of_length_le (by simp only [List.length_append, hAl, hBl, List.length_cons, List.length_nil]; omega), List.drop_left' (by simp only [List.length_append, hAl, List.length_cons, List.length_nil])]
    have hn : negS B = false := by
      unfold negS
      by_cases h0 : 0 < B.size
      · have : 48 ≤ bt B 0 := by
          rw [← hB] at h0 ⊢
          exact (fmt_bt (p := false) (m := x.den) (j := 0) h0).2 rfl
        rw [decide_eq_false (p := bt B 0 = 45) (by omega), Bool.and_false]
      · rw [decide_eq_false h0, Bool.false_and]
    unfold parF
    rw [ht, show PR A = some (some (decide (x.num < 0), x.num.natAbs)) from r1]
    dsimp only
    rw [if_pos (by omega), hb, if_neg (by rw [hn]; exact Bool.false_ne_true), show PR B = some (some (false, x.den)) from r2]
    dsimp only
    rw [sgn_self]
    unfold ofR
    rw [show sgn false x.den = (x.den : Int) from rfl, if_neg (by have := x.den_pos; omega)]
    exact hmk _ rfl
theorem FTexts_c (p : Bool) (l : List Int) (q : Bool) (k : List Int) (s : ByteArray) (hl : wf l) (hk : wf k) : Con Tryz.prog 4 [AF p l q k, St s] (Bo true) := by
  have hs := small_c p l q k
  by_cases h : l.length ≤ 8 ∧ k.length ≤ 8
  · rw [decide_eq_true h] at hs
    by_cases h2 : s.size ≤ 200
    · obtain ⟨qp, qm, qd, qe, e1, e2⟩ := par_pair s
      have p1 := FParse_c s (by omega)
      have p2 := RPar_c s (by omega)
      rw [e1] at p1
      rw [e2] at p2
      have k1 := like_m qp qm qd qe
      have hv := RFValid_c p l q k hl hk
      cases hvl : vldF p l q k with
      | false =>
        rw [hvl] at hv
        have f1 := FFormat_e p l q k hl hk hvl
        have f2 := RFFormat_e p l q k hl hk hvl
        have hne : decide ((⟨#[]⟩ : ByteArray) ≠ ⟨#[]⟩) = false := by decide
        have heq : decide ((⟨#[]⟩ : ByteArray) = ⟨#[]⟩) = true := by decide
        refine con_of Tryz.func4 rfl rfl rfl rfl rfl ?_
        repeat (first | refine seq_ ?_ | refine region_ ?_ | refine nil_ ?_ | refine stepY (y_assign rfl) rfl ?_ | refine stepY (y_loadA rfl rfl rfl) rfl ?_ | refine stepE (e_box rfl rfl rfl rfl rfl rfl) ?_)
        refine call_ Tryz.func9 rfl rfl (hs) rfl (by repeat (first | exact .refl _ | apply Les.cons | exact .nil)) rfl ?_
        repeat (first | refine seq_ ?_ | refine region_ ?_ | refine nil_ ?_ | refine skip_ ?_ | refine cond_f rfl ?_ | refine guard_t rfl rfl rfl ?_ | refine stepY (y_move rfl) rfl ?_ | refine stepY (y_loadA rfl rfl rfl) rfl ?_ | refine stepY (y_len_str rfl) rfl ?_ | refine stepY (y_not rfl) rfl ?_ | refine stepY (y_pick_f rfl rfl) rfl ?_ | refine stepY (y_cmpF rfl rfl rfl (by omega)) rfl ?_)
        refine call_ Tryz.func16 rfl rfl (f1) rfl (by repeat (first | exact .refl _ | apply Les.cons | exact .nil)) rfl ?_
        repeat (first | refine seq_ ?_ | refine region_ ?_ | refine nil_ ?_ | refine stepY (y_move rfl) rfl ?_ | refine stepY (y_assign rfl) rfl ?_)
        refine call_ Tryz.func17 rfl rfl (p1) rfl (by repeat (first | exact .refl _ | apply Les.cons | exact .nil)) rfl ?_
        repeat (first | refine seq_ ?_ | refine region_ ?_ | refine nil_ ?_ | refine stepY (y_move rfl) rfl ?_ | refine stepY (y_assign rfl) rfl ?_ | refine stepY (y_extract rfl rfl) rfl ?_ | refine stepE (e_alloc rfl rfl rfl) ?_ | refine stepE (e_store rfl rfl rfl rfl rfl rfl rfl) ?_)
        refine call_ Tryz.func18 rfl rfl (p2) rfl (by repeat (first | exact .refl _ | apply Les.cons | exact .nil)) rfl ?_
        repeat (first | refine seq_ ?_ | refine region_ ?_ | refine nil_ ?_ | refine stepY (y_move rfl) rfl ?_ | refine stepY (y_assign rfl) rfl ?_ | refine stepY (y_loadA rfl rfl rfl) rfl ?_ | refine stepY (y_extract rfl rfl) rfl ?_ | refine stepE (e_alloc rfl rfl rfl) ?_ | refine stepE (e_store rfl rfl rfl rfl rfl rfl rfl) ?_)
        refine call_ Tryz.func19 rfl rfl (f2) rfl (by repeat (first | exact .refl _ | apply Les.cons | exact .nil)) rfl ?_
        skip
        refine stepY (y_nes rfl rfl) rfl ?_
        rw [hne]
        repeat (first | refine guard_t rfl rfl rfl ?_ | refine stepY (y_move rfl) rfl ?_ | refine stepY (y_loadA rfl rfl rfl) rfl ?_)
        refine call_ Tryz.func15 rfl rfl (k1) rfl (by repeat (first | exact .refl _ | exact .tag _ _ | apply Le.ag | apply Les.cons | exact .nil)) rfl ?_
        repeat (first | refine seq_ ?_ | refine region_ ?_ | refine nil_ ?_ | refine skip_ ?_ | refine cond_f rfl ?_ | refine guard_t rfl rfl rfl ?_ | refine stepY (y_loadA rfl rfl rfl) rfl ?_ | refine stepY (y_not rfl) rfl ?_ | refine stepY (y_pick_f rfl rfl) rfl ?_)
        refine call_ Tryz.func20 rfl rfl (hv) rfl (by repeat (first | exact .refl _ | apply Les.cons | exact .nil)) rfl ?_
        repeat (first | refine seq_ ?_ | refine region_ ?_ | refine nil_ ?_ | refine cond_t rfl ?_ | refine guard_t rfl rfl rfl ?_ | refine stepY (y_move rfl) rfl ?_ | refine stepY (y_not rfl) rfl ?_ | refine stepY (y_eqs rfl rfl) rfl ?_)
        rw [heq]
        skip
        refine call_ Tryz.func10 rfl rfl (exampleHolds_c) rfl (by repeat (exact .nil)) rfl ?_
        repeat (first | refine nil_ ?_ | refine ret_ ?_ | refine stepY (y_assign rfl) rfl ?_ | refine stepY (y_pick_t rfl rfl) rfl ?_)
        ((apply fin_r); (repeat (first | exact .nil | exact .tmp rfl | apply ResL.cons)); (repeat (exact .refl _)))
      | true =>
        rw [hvl] at hv
        obtain ⟨x, hx, rfl, rfl, rfl, rfl⟩ := vldF_q hl hk hvl
        rw [limbs_length, limbs_length] at h
        have f1 := FFormat_g _ _ _ (vG_q hx)
        have f2 := RFFormat_g _ _ _ (vG_q hx)
        have hpf := par_fmt x hx h.1 h.2
        have z1 := fmt_8 (p := decide (x.num < 0)) h.1
        have z2 := fmt_8 (p := false) h.2
        have hsz : (fmtQ (decide (x.num < 0)) x.num.natAbs x.den).size ≤ 1000 := by
          unfold fmtQ
          split
          · omega
          · rw [ByteArray.size_append, ByteArray.size_append]
            have : (ByteArray.mk #[47]).size = 1 := rfl
            omega
        generalize fmtQ (decide (x.num < 0)) x.num.natAbs x.den = t at *
        have p3 := FParse_c t (by omega)
        rw [hpf] at p3
        have hsm := Same_m (decide (x.num < 0)) false x.num.natAbs x.den
        have hne : decide (t ≠ t) = false := decide_eq_false (fun h => h rfl)
        refine con_of Tryz.func4 rfl rfl rfl rfl rfl ?_
        repeat (first | refine seq_ ?_ | refine region_ ?_ | refine nil_ ?_ | refine stepY (y_assign rfl) rfl ?_ | refine stepY (y_loadA rfl rfl rfl) rfl ?_ | refine stepE (e_box rfl rfl rfl rfl rfl rfl) ?_)
        refine call_ Tryz.func9 rfl rfl (hs) rfl (by repeat (first | exact .refl _ | apply Les.cons | exact .nil)) rfl ?_
        repeat (first | refine seq_ ?_ | refine region_ ?_ | refine nil_ ?_ | refine skip_ ?_ | refine cond_f rfl ?_ | refine guard_t rfl rfl rfl ?_ | refine stepY (y_move rfl) rfl ?_ | refine stepY (y_loadA rfl rfl rfl) rfl ?_ | refine stepY (y_len_str rfl) rfl ?_ | refine stepY (y_not rfl) rfl ?_ | refine stepY (y_pick_f rfl rfl) rfl ?_ | refine stepY (y_cmpF rfl rfl rfl (by omega)) rfl ?_)
        refine call_ Tryz.func16 rfl rfl (f1) rfl (by repeat (first | exact .refl _ | apply Les.cons | exact .nil)) rfl ?_
        repeat (first | refine seq_ ?_ | refine region_ ?_ | refine nil_ ?_ | refine stepY (y_move rfl) rfl ?_ | refine stepY (y_assign rfl) rfl ?_)
        refine call_ Tryz.func17 rfl rfl (p1) rfl (by repeat (first | exact .refl _ | apply Les.cons | exact .nil)) rfl ?_
        repeat (first | refine seq_ ?_ | refine region_ ?_ | refine nil_ ?_ | refine stepY (y_move rfl) rfl ?_ | refine stepY (y_assign rfl) rfl ?_ | refine stepY (y_extract rfl rfl) rfl ?_ | refine stepE (e_alloc rfl rfl rfl) ?_ | refine stepE (e_store rfl rfl rfl rfl rfl rfl rfl) ?_)
        refine call_ Tryz.func18 rfl rfl (p2) rfl (by repeat (first | exact .refl _ | apply Les.cons | exact .nil)) rfl ?_
        repeat (first | refine seq_ ?_ | refine region_ ?_ | refine nil_ ?_ | refine stepY (y_move rfl) rfl ?_ | refine stepY (y_assign rfl) rfl ?_ | refine stepY (y_loadA rfl rfl rfl) rfl ?_ | refine stepY (y_extract rfl rfl) rfl ?_ | refine stepE (e_alloc rfl rfl rfl) ?_ | refine stepE (e_store rfl rfl rfl rfl rfl rfl rfl) ?_)
        refine call_ Tryz.func19 rfl rfl (f2) rfl (by repeat (first | exact .refl _ | apply Les.cons | exact .nil)) rfl ?_
        skip
        refine stepY (y_nes rfl rfl) rfl ?_
        rw [hne]
        repeat (first | refine guard_t rfl rfl rfl ?_ | refine stepY (y_move rfl) rfl ?_ | refine stepY (y_loadA rfl rfl rfl) rfl ?_)
        refine call_ Tryz.func15 rfl rfl (k1) rfl (by repeat (first | exact .refl _ | exact .tag _ _ | apply Le.ag | apply Les.cons | exact .nil)) rfl ?_
        repeat (first | refine seq_ ?_ | refine region_ ?_ | refine nil_ ?_ | refine skip_ ?_ | refine cond_f rfl ?_ | refine guard_t rfl rfl rfl ?_ | refine stepY (y_loadA rfl rfl rfl) rfl ?_ | refine stepY (y_not rfl) rfl ?_ | refine stepY (y_pick_f rfl rfl) rfl ?_)
        refine call_ Tryz.func20 rfl rfl (hv) rfl (by repeat (first | exact .refl _ | apply Les.cons | exact .nil)) rfl ?_
        repeat (first | refine seq_ ?_ | refine region_ ?_ | refine nil_ ?_ | refine skip_ ?_ | refine cond_f rfl ?_ | refine stepY (y_move rfl) rfl ?_ | refine stepY (y_not rfl) rfl ?_)
        refine call_ Tryz.func17 rfl rfl (p3) rfl (by repeat (first | exact .refl _ | apply Les.cons | exact .nil)) rfl ?_
        repeat (first | refine seq_ ?_ | refine region_ ?_ | refine nil_ ?_ | refine guard_t rfl rfl rfl ?_ | refine stepY (y_move rfl) rfl ?_ | refine stepY (y_assign rfl) rfl ?_ | refine stepY (y_loadA rfl rfl rfl) rfl ?_ | refine stepY (y_extract rfl rfl) rfl ?_ | refine stepY (y_cmpT rfl rfl rfl (by omega)) rfl ?_ | refine stepE (e_alloc rfl rfl rfl) ?_ | refine stepE (e_store rfl rfl rfl rfl rfl rfl rfl) ?_)
        refine call_ Tryz.func21 rfl rfl (hsm) rfl (by repeat (first | exact .refl _ | exact .tag _ _ | apply Le.ag | apply Les.cons | exact .nil)) rfl ?_
        repeat (first | refine guard_t rfl rfl rfl ?_ | refine stepY (y_move rfl) rfl ?_ | refine stepY (y_pick_t rfl rfl) rfl ?_)
        refine call_ Tryz.func10 rfl rfl (exampleHolds_c) rfl (by repeat (exact .nil)) rfl ?_
        repeat (first | refine nil_ ?_ | refine ret_ ?_ | refine stepY (y_assign rfl) rfl ?_ | refine stepY (y_pick_t rfl rfl) rfl ?_)
        ((apply fin_r); (repeat (first | exact .nil | exact .tmp rfl | apply ResL.cons)); (repeat (exact .refl _)))
    · refine con_of Tryz.func4 rfl rfl rfl rfl rfl ?_
      repeat (first | refine seq_ ?_ | refine region_ ?_ | refine nil_ ?_ | refine stepY (y_assign rfl) rfl ?_ | refine stepY (y_loadA rfl rfl rfl) rfl ?_ | refine stepE (e_box rfl rfl rfl rfl rfl rfl) ?_)
      refine call_ Tryz.func9 rfl rfl (hs) rfl (by repeat (first | exact .refl _ | apply Les.cons | exact .nil)) rfl ?_
      repeat (first | refine seq_ ?_ | refine region_ ?_ | refine nil_ ?_ | refine cond_t rfl ?_ | refine guard_t rfl rfl rfl ?_ | refine stepY (y_move rfl) rfl ?_ | refine stepY (y_len_str rfl) rfl ?_ | refine stepY (y_not rfl) rfl ?_ | refine stepY (y_pick_f rfl rfl) rfl ?_ | refine stepY (y_cmpT rfl rfl rfl (by omega)) rfl ?_)
      refine call_ Tryz.func10 rfl rfl (exampleHolds_c) rfl (by repeat (exact .nil)) rfl ?_
      repeat (first | refine nil_ ?_ | refine ret_ ?_ | refine stepY (y_assign rfl) rfl ?_)
      ((apply fin_r); (repeat (first | exact .nil | exact .tmp rfl | apply ResL.cons)); (repeat (exact .refl _)))
  · rw [decide_eq_false h] at hs
    refine con_of Tryz.func4 rfl rfl rfl rfl rfl ?_
    repeat (first | refine seq_ ?_ | refine region_ ?_ | refine nil_ ?_ | refine stepY (y_assign rfl) rfl ?_ | refine stepY (y_loadA rfl rfl rfl) rfl ?_ | refine stepE (e_box rfl rfl rfl rfl rfl rfl) ?_)
    refine call_ Tryz.func9 rfl rfl (hs) rfl (by repeat (first | exact .refl _ | apply Les.cons | exact .nil)) rfl ?_
    repeat (first | refine seq_ ?_ | refine region_ ?_ | refine nil_ ?_ | refine cond_t rfl ?_ | refine guard_f rfl rfl rfl rfl ?_ | refine stepY (y_move rfl) rfl ?_ | refine stepY (y_not rfl) rfl ?_ | refine stepY (y_pick_t rfl rfl) rfl ?_)
    refine call_ Tryz.func10 rfl rfl (exampleHolds_c) rfl (by repeat (exact .nil)) rfl ?_
    repeat (first | refine nil_ ?_ | refine ret_ ?_ | refine stepY (y_assign rfl) rfl ?_)
    ((apply fin_r); (repeat (first | exact .nil | exact .tmp rfl | apply ResL.cons)); (repeat (exact .refl _)))
end Go.Av
