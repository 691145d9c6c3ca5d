/- Contracts behind a law: no conditions beyond those in each statement. -/
import Derived.Test.YtmaobhmoipegeaaGreatJ6
import Derived.Test.YtmaobhmoipegeaaGreatJ3
import Derived.Test.YtmaobhmoipegeaaGreatPc
import Derived.Test.YtmaobhmoipegeaaGreatJ5
import Derived.Test.YtmaobhmoipegeaaGreatLq
set_option maxHeartbeats 8000000
set_option exponentiation.threshold 100000
set_option maxRecDepth 100000
set_option linter.unusedVariables false
set_option linter.unusedSimpArgs false
namespace Go.Av
open Go Go.Proofs
/-! The reference of the fractions: texts; FractionTexts -/
theorem RFFormat_e (p : Bool) (l : List Int) (q : Bool) (k : List Int) (hl : wf l) (hk : wf k) (h : vldF p l q k = false) : Con Tryz.prog 19 [AF p l q k] (.v (.string ⟨#[]⟩)) := by
  have hv := RFValid_c p l q k hl hk
  rw [h] at hv
  refine con_of Tryz.func19 rfl rfl rfl rfl rfl ?_
  repeat (first | refine seq_ ?_ | refine region_ ?_ | refine nil_ ?_ | refine stepY (y_assign rfl) rfl ?_ | refine stepY (y_loadA rfl rfl rfl) rfl ?_ | refine stepE (e_box rfl rfl rfl rfl rfl rfl) ?_)
  refine call_ Tryz.func20 rfl rfl (hv) rfl (by repeat (first | exact .refl _ | apply Les.cons | exact .nil)) rfl ?_
  repeat (first | refine seq_ ?_ | refine region_ ?_ | refine nil_ ?_ | refine ret_ ?_ | refine cond_t rfl ?_ | refine stepY (y_assign rfl) rfl ?_ | refine stepY (y_not rfl) rfl ?_)
  ((apply fin_r); (repeat (first | exact .nil | exact .tmp rfl | apply ResL.cons)); (repeat (exact .refl _)))
theorem RFv_g {p : Bool} {m d : Nat} (h : vG p m d) : Con Tryz.prog 20 [GF p m d] (Bo true) := by
  have hv := RFValid_c p (limbs m) false (limbs d) (wf_limbs _) (wf_limbs _)
  unfold vG at h
  rwa [h] at hv
theorem RFFormat_g (p : Bool) (m d : Nat) (h : vG p m d) : Con Tryz.prog 19 [GF p m d] (.v (.string (fmtQ p m d))) := by
  have hv := RFv_g h
  obtain ⟨b1, b2, b3, b4, b5, b6⟩ := vG_bd h
  have hw := one3_c d
  have f1 := RFormat_s p m b5
  have f2 := RFormat_s false d b6
  unfold fmtQ
  by_cases h1 : d = 1
  · rw [if_pos h1]
    rw [show (d == 1) = true from beq_iff_eq.2 h1] at hw
    refine con_of Tryz.func19 rfl rfl rfl rfl rfl ?_
    repeat (first | refine seq_ ?_ | refine region_ ?_ | refine nil_ ?_ | refine stepY (y_assign rfl) rfl ?_ | refine stepY (y_loadA rfl rfl rfl) rfl ?_ | refine stepE (e_box rfl rfl rfl rfl rfl rfl) ?_)
    refine call_ Tryz.func20 rfl rfl (hv) rfl (by repeat (first | exact .refl _ | apply Les.cons | exact .nil)) rfl ?_
    repeat (first | refine seq_ ?_ | refine region_ ?_ | refine nil_ ?_ | refine skip_ ?_ | refine cond_f rfl ?_ | refine stepY (y_load1 rfl rfl rfl) rfl ?_ | refine stepY (y_fieldAddr rfl) rfl ?_ | refine stepY (y_not rfl) rfl ?_)
    refine call_ Tryz.func59 rfl rfl (hw) rfl (by repeat (first | exact .refl _ | apply Les.cons | exact .nil)) rfl ?_
    repeat (first | refine seq_ ?_ | refine region_ ?_ | refine nil_ ?_ | refine cond_t rfl ?_ | refine stepY (y_loadA rfl rfl rfl) rfl ?_ | refine stepY (y_fieldAddr rfl) rfl ?_)
    refine call_ Tryz.func60 rfl rfl (f1) rfl (by repeat (first | exact .refl _ | apply Les.cons | exact .nil)) rfl ?_
    repeat (first | refine nil_ ?_ | refine ret_ ?_ | refine stepY (y_assign rfl) rfl ?_)
    ((apply fin_r); (repeat (first | exact .nil | exact .tmp rfl | apply ResL.cons)); (repeat (exact .refl _)))
  · rw [if_neg h1]
    rw [show (d == 1) = false from beq_eq_false_iff_ne.2 h1] at hw
    have s1 := fmt_le (p := p) b1
    have s2 := fmt_le (p := false) b2
    have s0 : (ByteArray.mk #[47]).size = 1 := rfl
    have s3 : (fmt p m ++ ByteArray.mk #[47]).size = (fmt p m).size + (ByteArray.mk #[47]).size := ByteArray.size_append
    refine con_of Tryz.func19 rfl rfl rfl rfl rfl ?_
    repeat (first | refine seq_ ?_ | refine region_ ?_ | refine nil_ ?_ | refine stepY (y_assign rfl) rfl ?_ | refine stepY (y_loadA rfl rfl rfl) rfl ?_ | refine stepE (e_box rfl rfl rfl rfl rfl rfl) ?_)
    refine call_ Tryz.func20 rfl rfl (hv) rfl (by repeat (first | exact .refl _ | apply Les.cons | exact .nil)) rfl ?_
    repeat (first | refine seq_ ?_ | refine region_ ?_ | refine nil_ ?_ | refine skip_ ?_ | refine cond_f rfl ?_ | refine stepY (y_load1 rfl rfl rfl) rfl ?_ | refine stepY (y_fieldAddr rfl) rfl ?_ | refine stepY (y_not rfl) rfl ?_)
    refine call_ Tryz.func59 rfl rfl (hw) rfl (by repeat (first | exact .refl _ | apply Les.cons | exact .nil)) rfl ?_
    repeat (first | refine seq_ ?_ | refine nil_ ?_ | refine skip_ ?_ | refine cond_f rfl ?_)
    refine draw_ [(0, true), (1, true), (4, true), (5, true), (2, false), (3, true), (6, false), (7, true), (8, true)] 1000 [1] mixed (by kernel_rfl) rfl ?_
    ((refine dY rfl (y_fieldAddr rfl) rfl rfl rfl rfl ?_); refine dY rfl (y_loadA rfl rfl rfl) rfl rfl rfl rfl ?_; refine dY rfl (y_fieldAddr rfl) rfl rfl rfl rfl ?_; refine dY rfl (y_loadA rfl rfl rfl) rfl rfl rfl rfl ?_)
    refine dC rfl Tryz.func60 rfl rfl (f1) rfl (by repeat (first | exact .refl _ | apply Les.cons | exact .nil)) rfl rfl ?_
    ((refine dY rfl (y_adds rfl rfl (by omega)) rfl rfl rfl rfl ?_))
    refine dC rfl Tryz.func60 rfl rfl (f2) rfl (by repeat (first | exact .refl _ | apply Les.cons | exact .nil)) rfl rfl ?_
    ((refine dY rfl (y_adds rfl rfl (by omega)) rfl rfl rfl rfl ?_); refine dY rfl (y_assign rfl) rfl rfl rfl rfl ?_; refine dEnd ?_)
    repeat (refine ret_ ?_)
    ((apply fin_r); (repeat (first | exact .nil | exact .tmp rfl | apply ResL.cons)); (repeat (exact .refl _)))
theorem ba_len (s : ByteArray) : s.data.toList.length = s.size := Array.length_toList
/-- a byte, out of the list of bytes -/
theorem bt_list (s : ByteArray) (i : Nat) : bt s (i : Int) = ((s.data.toList.getD i 0).toNat : Int) := by
  unfold bt
  by_cases h : i < s.size
  · rw [dif_pos (by simpa using h), List.getD_eq_getElem?_getD, List.getElem?_eq_getElem (by rw [ba_len]; exact h)]
    rfl
  · rw [dif_neg (by simpa using h), List.getD_eq_getElem?_getD, List.getElem?_eq_none (by rw [ba_len]; omega)]
    rfl
theorem ex_list (s : ByteArray) (a b : Nat) : (s.extract a b).data.toList = (s.data.toList.take b).drop a := by
  rw [ByteArray.data_extract, Array.toList_extract, List.extract_eq_take_drop, List.drop_take]
theorem ba_ext {s t : ByteArray} (h : s.data.toList = t.data.toList) : s = t := ByteArray.ext (Array.ext' h)
theorem ex_all (s : ByteArray) : s.extract 0 s.size = s := by
  apply ba_ext
  rw [ex_list, List.drop_zero, List.take_of_length_le (by rw [ba_len]; omega)]
theorem ap_list (s t : ByteArray) : (s ++ t).data.toList = s.data.toList ++ t.data.toList := by
  rw [ByteArray.data_append, Array.toList_append]
theorem neg_bot (s : ByteArray) (h : cutAt s < s.size) : negS (botS s) = (decide (cutAt s + 1 < s.size) && decide (bt s ((cutAt s : Int) + 1) = 45)) := by
  have e : botS s = s.extract (cutAt s + 1) s.size := by unfold botS; rw [if_pos h]
  have hl := ba_len s
  have hz : (botS s).size = s.size - (cutAt s + 1) := by
    rw [← ba_len, e, ex_list, List.length_drop, List.length_take, hl]; omega
  have hb : bt (botS s) 0 = bt s ((cutAt s : Int) + 1) := by
    have h1 := bt_list (botS s) 0
    have h2 := bt_list s (cutAt s + 1)
    rw [show (((0 : Nat) : Int)) = 0 from rfl] at h1
    rw [show ((cutAt s + 1 : Nat) : Int) = (cutAt s : Int) + 1 by omega] at h2
    rw [h1, h2, e, ex_list, List.take_of_length_le (by omega)]
    simp [List.getD_eq_getElem?_getD, List.getElem?_drop]
  unfold negS
  rw [hz, hb]
  congr 1
  exact decide_eq_decide.2 (by omega)
/-- what the reference's Parse answers -/
def parM (s : ByteArray) : PV :=
  match PR (topS s) with
  | none => .tp [ZM, E_ 4]
  | some none => .tp [ZM, E_ 9]
  | some (some (g, m)) =>
    if cutAt s < s.size then
      if negS (botS s) = true then .tp [ZM, E_ 9] else
      match PR (botS s) with
      | none => .tp [ZM, E_ 4]
      | some none => .tp [ZM, E_ 9]
      | some (some (g', n)) => ofM (sgn g m) (sgn g' n)
    else ofM (sgn g m) 1
theorem par_pair (s : ByteArray) : ∃ p m d e, parF s = AnsF p m d e ∧ parM s = AnsM p m d e := by
  have hof : ∀ n d : Int, ∃ p m k e, ofR n d = AnsF p m k e ∧ ofM n d = AnsM p m k e := by
    intro n d
    unfold ofR ofM
    by_cases h : d = 0
    · rw [if_pos h, if_pos h]; exact ⟨_, _, _, _, rfl, rfl⟩
    · rw [if_neg h, if_neg h]; exact res_ex _
  unfold parF parM
  cases h1 : PR (topS s) with
  | none => exact ⟨_, _, _, _, rfl, rfl⟩
  | some o =>
    cases o with
    | none => exact ⟨_, _, _, _, rfl, rfl⟩
    | some a =>
      obtain ⟨g, m⟩ := a
      dsimp only
      by_cases hc : cutAt s < s.size
      · rw [if_pos hc, if_pos hc]
        by_cases hn : negS (botS s) = true
        · rw [if_pos hn, if_pos hn]; exact ⟨_, _, _, _, rfl, rfl⟩
        · rw [if_neg hn, if_neg hn]
          cases h2 : PR (botS s) with
          | none => exact ⟨_, _, _, _, rfl, rfl⟩
          | some o =>
            cases o with
            | none => exact ⟨_, _, _, _, rfl, rfl⟩
            | some a => exact hof _ _
      · rw [if_neg hc, if_neg hc]; exact hof _ _
theorem ofM_ex (n d : Int) : ∃ p m k e, ofM n d = AnsM p m k e := by
  unfold ofM
  by_cases h : d = 0
  · rw [if_pos h]; exact ⟨_, _, _, _, rfl⟩
  · rw [if_neg h]
    obtain ⟨p, m, k, e, _, h2⟩ := res_ex (Rat.divInt n d)
    exact ⟨p, m, k, e, h2⟩
theorem RNew_i (n d : Int) (l1 : ln n.natAbs ≤ 512) (l2 : ln d.natAbs ≤ 512) : Con Tryz.prog 57 [IV n, IV d] (ofM n d) := by
  unfold ofM
  split
  · next h0 =>
    have hN := RNew_z (decide (n < 0)) (decide (d < 0)) (limbs n.natAbs) (vld_iv l1) (by rw [h0]; rfl)
    subst h0
    exact hN
  · next h0 =>
    have hN := RNew_s (decide (n < 0)) (decide (d < 0)) n.natAbs d.natAbs (vld_iv l1) (vld_iv l2) (by omega)
    rwa [divInt_sgn n d h0] at hN
theorem RPar_c (s : ByteArray) (hs : s.size ≤ 1000000000) : Con Tryz.prog 18 [St s] (parM s) := by
  have hp := RParse_c (topS s)
  have hq := RParse_c (botS s)
  have hf := RFromInt_c 1 (by omega)
  have hcl := cut_le s
  rw [show prT (negS (topS s)) (tS (topS s)) = PR (topS s) from rfl] at hp
  rw [show prT (negS (botS s)) (tS (botS s)) = PR (botS s) from rfl] at hq
  refine con_of Tryz.func18 rfl rfl rfl rfl rfl ?_
  refine seq_ ?_
  repeat (first | refine region_ ?_ | refine nil_ ?_ | refine stepY (y_assign rfl) rfl ?_ | refine stepE (e_alloc rfl rfl rfl) ?_)
  refine seq_ ?_
  repeat (first | refine region_ ?_ | refine nil_ ?_ | refine stepY (y_assign rfl) rfl ?_)
  refine seq_ (cut_ [(0, .p (St s)), (2, .ptr 2 0), (3, .p (E_ 0)), (4, .p (I (cutAt s : Int)))] [(2, .bx Z4)] ?_ ?_)
  · refine block_ ?_
    refine loop_ (α := Nat) (fun k => ([(0, .p (St s)), (2, .ptr 2 0), (3, .p (E_ 0)), (4, .p (I (k : Int)))], [(2, .bx Z4)])) (fun k => k ≤ cutAt s) (fun k => cutAt s - k) 0 (Nat.zero_le _) ?_ ?_ ?_
    · (repeat (first | exact sub_nil | refine sub_cons rfl ?_))
    · (repeat (first | exact subH_nil | refine subH_cons rfl ?_))
    intro k hk
    by_cases hlt : k < cutAt s
    · have h47 := cut_lo hlt
      repeat (first | refine seq_ ?_ | refine region_ ?_ | refine nil_ ?_ | refine skip_ ?_ | refine block_ ?_ | refine cond_t rfl ?_ | refine guard_t rfl rfl rfl ?_ | refine stepY (y_move rfl) rfl ?_ | refine stepY (y_assign rfl) rfl ?_ | refine stepY (y_len_str rfl) rfl ?_ | refine stepY (y_pick_t rfl rfl) rfl ?_ | refine stepY (y_index_str rfl rfl (by omega) (by omega)) rfl ?_ | refine stepY (y_binn rfl rfl rfl (by simp only [InK, loK, hiK]; omega)) rfl ?_ | refine stepY (y_cmpT rfl rfl rfl (by omega)) rfl ?_ | refine stepY (y_cmpT rfl rfl rfl (by omega)) rfl ?_)
      refine ⟨k + 1, by omega, by omega, ?_, ?_⟩ <;> (repeat (first | exact sub_nil | exact subH_nil | refine sub_cons rfl ?_ | refine subH_cons rfl ?_))
    · obtain rfl : k = cutAt s := by omega
      by_cases hc : cutAt s < s.size
      · have h47 := cut_at hc
        repeat (first | refine seq_ ?_ | refine region_ ?_ | refine nil_ ?_ | refine exit_ ?_ | refine cond_f rfl ?_ | refine guard_t rfl rfl rfl ?_ | refine stepY (y_move rfl) rfl ?_ | refine stepY (y_len_str rfl) rfl ?_ | refine stepY (y_pick_t rfl rfl) rfl ?_ | refine stepY (y_index_str rfl rfl (by omega) (by omega)) rfl ?_ | refine stepY (y_cmpF rfl rfl rfl (by omega)) rfl ?_ | refine stepY (y_cmpT rfl rfl rfl (by omega)) rfl ?_)
        exact ⟨rfl, by (repeat (first | exact sub_nil | refine sub_cons rfl ?_)), by (repeat (first | exact subH_nil | refine subH_cons rfl ?_))⟩
      · repeat (first | refine seq_ ?_ | refine region_ ?_ | refine nil_ ?_ | refine exit_ ?_ | refine cond_f rfl ?_ | refine guard_f rfl rfl rfl rfl ?_ | refine stepY (y_move rfl) rfl ?_ | refine stepY (y_len_str rfl) rfl ?_ | refine stepY (y_pick_f rfl rfl) rfl ?_ | refine stepY (y_cmpF rfl rfl rfl (by omega)) rfl ?_)
        exact ⟨rfl, by (repeat (first | exact sub_nil | refine sub_cons rfl ?_)), by (repeat (first | exact subH_nil | refine subH_cons rfl ?_))⟩
  have hcl2 : (cutAt s : Int) ≤ s.size := by omega
  have htop : s.extract 0 ((cutAt s : Int)).toNat = topS s := by
    rw [Int.toNat_natCast]
    unfold topS
    by_cases hc : cutAt s < s.size
    · rw [if_pos hc]
    · rw [if_neg hc, show cutAt s = s.size by omega, ex_all]
  unfold parM
  cases h1 : PR (topS s) with
  | none =>
    rw [h1] at hp
    unfold prV at hp
    repeat (first | refine seq_ ?_ | refine region_ ?_ | refine stepY (y_move rfl) rfl ?_ | refine stepY (y_slice_str_h rfl rfl (by omega) (by omega)) rfl ?_)
    rw [htop]
    skip
    refine call_ Tryz.func56 rfl rfl (hp) rfl (by repeat (first | exact .refl _ | apply Les.cons | exact .nil)) rfl ?_
    repeat (first | refine seq_ ?_ | refine region_ ?_ | refine nil_ ?_ | refine ret_ ?_ | refine cond_t rfl ?_ | refine stepY (y_move rfl) rfl ?_ | refine stepY (y_assign rfl) rfl ?_ | refine stepY (y_extract rfl rfl) rfl ?_ | refine stepY (y_build rfl rfl rfl) rfl ?_ | refine stepY (y_cmpT rfl rfl rfl (by omega)) rfl ?_ | refine stepE (e_alloc rfl rfl rfl) ?_ | refine stepE (e_store rfl rfl rfl rfl rfl rfl rfl) ?_)
    ((apply fin_r); (repeat (first | exact .nil | exact .tmp rfl | exact .agg rfl rfl rfl | apply ResL.cons)); (repeat (first | exact .refl _ | exact .nil _ _ | apply Le.ag | apply Le.tp | apply Les.cons | exact .nil)))
  | some o =>
    cases o with
    | none =>
      rw [h1] at hp
      unfold prV at hp
      repeat (first | refine seq_ ?_ | refine region_ ?_ | refine stepY (y_move rfl) rfl ?_ | refine stepY (y_slice_str_h rfl rfl (by omega) (by omega)) rfl ?_)
      rw [htop]
      skip
      refine call_ Tryz.func56 rfl rfl (hp) rfl (by repeat (first | exact .refl _ | apply Les.cons | exact .nil)) rfl ?_
      repeat (first | refine seq_ ?_ | refine region_ ?_ | refine nil_ ?_ | refine ret_ ?_ | refine cond_t rfl ?_ | refine stepY (y_move rfl) rfl ?_ | refine stepY (y_assign rfl) rfl ?_ | refine stepY (y_extract rfl rfl) rfl ?_ | refine stepY (y_build rfl rfl rfl) rfl ?_ | refine stepY (y_cmpT rfl rfl rfl (by omega)) rfl ?_ | refine stepE (e_alloc rfl rfl rfl) ?_ | refine stepE (e_store rfl rfl rfl rfl rfl rfl rfl) ?_)
      ((apply fin_r); (repeat (first | exact .nil | exact .tmp rfl | exact .agg rfl rfl rfl | apply ResL.cons)); (repeat (first | exact .refl _ | exact .nil _ _ | apply Le.ag | apply Le.tp | apply Les.cons | exact .nil)))
    | some a =>
      obtain ⟨g, m⟩ := a
      rw [h1] at hp
      unfold prV at hp
      have hl1 := PR_ln h1
      dsimp only
      by_cases hc : cutAt s < s.size
      · rw [if_pos hc]
        have hnb := neg_bot s hc
        have hbot : s.extract ((cutAt s : Int) + 1).toNat s.size = botS s := by
          unfold botS; rw [if_pos hc]; congr 1
        cases hn : negS (botS s) with
        | true =>
          rw [if_pos rfl]
          rw [hn] at hnb
          have hnb := hnb.symm
          simp only [Bool.and_eq_true, decide_eq_true_eq] at hnb
          obtain ⟨n1, n2⟩ := hnb
          repeat (first | refine seq_ ?_ | refine region_ ?_ | refine stepY (y_move rfl) rfl ?_ | refine stepY (y_slice_str_h rfl rfl (by omega) (by omega)) rfl ?_)
          rw [htop]
          skip
          refine call_ Tryz.func56 rfl rfl (hp) rfl (by repeat (first | exact .refl _ | apply Les.cons | exact .nil)) rfl ?_
          repeat (first | refine seq_ ?_ | refine region_ ?_ | refine nil_ ?_ | refine skip_ ?_ | refine ret_ ?_ | refine cond_t rfl ?_ | refine cond_f rfl ?_ | refine guard_t rfl rfl rfl ?_ | refine stepY (y_move rfl) rfl ?_ | refine stepY (y_assign rfl) rfl ?_ | refine stepY (y_extract rfl rfl) rfl ?_ | refine stepY (y_len_str rfl) rfl ?_ | refine stepY (y_pick_t rfl rfl) rfl ?_ | refine stepY (y_build rfl rfl rfl) rfl ?_ | refine stepY (y_index_str rfl rfl (by omega) (by omega)) rfl ?_ | refine stepY (y_binn rfl rfl rfl (by simp only [InK, loK, hiK]; omega)) rfl ?_ | (first | refine stepY (y_cmpT rfl rfl rfl (by omega)) rfl ?_ | refine stepY (y_cmpF rfl rfl rfl (by omega)) rfl ?_) | refine stepY (y_cmpF rfl rfl rfl (by omega)) rfl ?_ | refine stepY (y_cmpT rfl rfl rfl (by omega)) rfl ?_ | refine stepE (e_alloc rfl rfl rfl) ?_ | refine stepE (e_store rfl rfl rfl rfl rfl rfl rfl) ?_)
          ((apply fin_r); (repeat (first | exact .nil | exact .tmp rfl | exact .agg rfl rfl rfl | apply ResL.cons)); (repeat (first | exact .refl _ | exact .nil _ _ | apply Le.ag | apply Le.tp | apply Les.cons | exact .nil)))
        | false =>
          rw [if_neg Bool.false_ne_true]
          rw [hn] at hnb
          have hnb := hnb.symm
          simp only [Bool.and_eq_false_iff, decide_eq_false_iff_not] at hnb
          by_cases n1 : cutAt s + 1 < s.size
          · have n2 : ¬ bt s ((cutAt s : Int) + 1) = 45 := by
              rcases hnb with h | h
              · exact absurd n1 h
              · exact h
            clear hnb
            cases h2 : PR (botS s) with
            | none =>
              rw [h2] at hq
              unfold prV at hq
              repeat (first | refine seq_ ?_ | refine region_ ?_ | refine stepY (y_move rfl) rfl ?_ | refine stepY (y_slice_str_h rfl rfl (by omega) (by omega)) rfl ?_)
              rw [htop]
              skip
              refine call_ Tryz.func56 rfl rfl (hp) rfl (by repeat (first | exact .refl _ | apply Les.cons | exact .nil)) rfl ?_
              repeat (first | refine seq_ ?_ | refine region_ ?_ | refine nil_ ?_ | refine skip_ ?_ | refine cond_f rfl ?_ | refine guard_t rfl rfl rfl ?_ | refine stepY (y_move rfl) rfl ?_ | refine stepY (y_assign rfl) rfl ?_ | refine stepY (y_extract rfl rfl) rfl ?_ | refine stepY (y_len_str rfl) rfl ?_ | refine stepY (y_pick_t rfl rfl) rfl ?_ | refine stepY (y_index_str rfl rfl (by omega) (by omega)) rfl ?_ | refine stepY (y_slice_str_l rfl rfl (by omega) (by omega)) rfl ?_ | refine stepY (y_binn rfl rfl rfl (by simp only [InK, loK, hiK]; omega)) rfl ?_ | refine stepY (y_cmpF rfl rfl rfl (by omega)) rfl ?_ | refine stepY (y_cmpF rfl rfl rfl (by omega)) rfl ?_ | refine stepY (y_cmpT rfl rfl rfl (by omega)) rfl ?_ | refine stepE (e_alloc rfl rfl rfl) ?_ | refine stepE (e_store rfl rfl rfl rfl rfl rfl rfl) ?_)
              rw [hbot]
              refine call_ Tryz.func56 rfl rfl (hq) rfl (by repeat (first | exact .refl _ | apply Les.cons | exact .nil)) rfl ?_
              repeat (first | refine seq_ ?_ | refine region_ ?_ | refine nil_ ?_ | refine ret_ ?_ | refine cond_t rfl ?_ | refine stepY (y_move rfl) rfl ?_ | refine stepY (y_assign rfl) rfl ?_ | refine stepY (y_extract rfl rfl) rfl ?_ | refine stepY (y_build rfl rfl rfl) rfl ?_ | refine stepY (y_cmpT rfl rfl rfl (by omega)) rfl ?_ | refine stepE (e_alloc rfl rfl rfl) ?_ | refine stepE (e_store rfl rfl rfl rfl rfl rfl rfl) ?_)
              ((apply fin_r); (repeat (first | exact .nil | exact .tmp rfl | exact .agg rfl rfl rfl | apply ResL.cons)); (repeat (first | exact .refl _ | exact .nil _ _ | apply Le.ag | apply Le.tp | apply Les.cons | exact .nil)))
            | some o =>
              cases o with
              | none =>
                rw [h2] at hq
                unfold prV at hq
                repeat (first | refine seq_ ?_ | refine region_ ?_ | refine stepY (y_move rfl) rfl ?_ | refine stepY (y_slice_str_h rfl rfl (by omega) (by omega)) rfl ?_)
                rw [htop]
                skip
                refine call_ Tryz.func56 rfl rfl (hp) rfl (by repeat (first | exact .refl _ | apply Les.cons | exact .nil)) rfl ?_
                repeat (first | refine seq_ ?_ | refine region_ ?_ | refine nil_ ?_ | refine skip_ ?_ | refine cond_f rfl ?_ | refine guard_t rfl rfl rfl ?_ | refine stepY (y_move rfl) rfl ?_ | refine stepY (y_assign rfl) rfl ?_ | refine stepY (y_extract rfl rfl) rfl ?_ | refine stepY (y_len_str rfl) rfl ?_ | refine stepY (y_pick_t rfl rfl) rfl ?_ | refine stepY (y_index_str rfl rfl (by omega) (by omega)) rfl ?_ | refine stepY (y_slice_str_l rfl rfl (by omega) (by omega)) rfl ?_ | refine stepY (y_binn rfl rfl rfl (by simp only [InK, loK, hiK]; omega)) rfl ?_ | refine stepY (y_cmpF rfl rfl rfl (by omega)) rfl ?_ | refine stepY (y_cmpF rfl rfl rfl (by omega)) rfl ?_ | refine stepY (y_cmpT rfl rfl rfl (by omega)) rfl ?_ | refine stepE (e_alloc rfl rfl rfl) ?_ | refine stepE (e_store rfl rfl rfl rfl rfl rfl rfl) ?_)
                rw [hbot]
                refine call_ Tryz.func56 rfl rfl (hq) rfl (by repeat (first | exact .refl _ | apply Les.cons | exact .nil)) rfl ?_
                repeat (first | refine seq_ ?_ | refine region_ ?_ | refine nil_ ?_ | refine ret_ ?_ | refine cond_t rfl ?_ | refine stepY (y_move rfl) rfl ?_ | refine stepY (y_assign rfl) rfl ?_ | refine stepY (y_extract rfl rfl) rfl ?_ | refine stepY (y_build rfl rfl rfl) rfl ?_ | refine stepY (y_cmpT rfl rfl rfl (by omega)) rfl ?_ | refine stepE (e_alloc rfl rfl rfl) ?_ | refine stepE (e_store rfl rfl rfl rfl rfl rfl rfl) ?_)
                ((apply fin_r); (repeat (first | exact .nil | exact .tmp rfl | exact .agg rfl rfl rfl | apply ResL.cons)); (repeat (first | exact .refl _ | exact .nil _ _ | apply Le.ag | apply Le.tp | apply Les.cons | exact .nil)))
              | some a =>
                obtain ⟨g', n⟩ := a
                rw [h2] at hq
                unfold prV at hq
                have hN := RNew_i (sgn g m) (sgn g' n) hl1 (PR_ln h2)
                dsimp only
                obtain ⟨qp, qm, qk, qe, hqq⟩ := ofM_ex (sgn g m) (sgn g' n)
                rw [hqq] at hN ⊢
                repeat (first | refine seq_ ?_ | refine region_ ?_ | refine stepY (y_move rfl) rfl ?_ | refine stepY (y_slice_str_h rfl rfl (by omega) (by omega)) rfl ?_)
                rw [htop]
                skip
                refine call_ Tryz.func56 rfl rfl (hp) rfl (by repeat (first | exact .refl _ | apply Les.cons | exact .nil)) rfl ?_
                repeat (first | refine seq_ ?_ | refine region_ ?_ | refine nil_ ?_ | refine skip_ ?_ | refine cond_f rfl ?_ | refine guard_t rfl rfl rfl ?_ | refine stepY (y_move rfl) rfl ?_ | refine stepY (y_assign rfl) rfl ?_ | refine stepY (y_extract rfl rfl) rfl ?_ | refine stepY (y_len_str rfl) rfl ?_ | refine stepY (y_pick_t rfl rfl) rfl ?_ | refine stepY (y_index_str rfl rfl (by omega) (by omega)) rfl ?_ | refine stepY (y_slice_str_l rfl rfl (by omega) (by omega)) rfl ?_ | refine stepY (y_binn rfl rfl rfl (by simp only [InK, loK, hiK]; omega)) rfl ?_ | refine stepY (y_cmpF rfl rfl rfl (by omega)) rfl ?_ | refine stepY (y_cmpF rfl rfl rfl (by omega)) rfl ?_ | refine stepY (y_cmpT rfl rfl rfl (by omega)) rfl ?_ | refine stepE (e_alloc rfl rfl rfl) ?_ | refine stepE (e_store rfl rfl rfl rfl rfl rfl rfl) ?_)
                rw [hbot]
                refine call_ Tryz.func56 rfl rfl (hq) rfl (by repeat (first | exact .refl _ | apply Les.cons | exact .nil)) rfl ?_
                repeat (first | refine seq_ ?_ | refine region_ ?_ | refine nil_ ?_ | refine skip_ ?_ | refine cond_f rfl ?_ | refine stepY (y_move rfl) rfl ?_ | refine stepY (y_assign rfl) rfl ?_ | refine stepY (y_loadA rfl rfl rfl) rfl ?_ | refine stepY (y_extract rfl rfl) rfl ?_ | refine stepY (y_cmpF rfl rfl rfl (by omega)) rfl ?_ | refine stepE (e_alloc rfl rfl rfl) ?_ | refine stepE (e_store rfl rfl rfl rfl rfl rfl rfl) ?_)
                refine call_ Tryz.func57 rfl rfl (hN) rfl (by repeat (first | exact .refl _ | exact .tag _ _ | apply Le.ag | apply Les.cons | exact .nil)) rfl ?_
                repeat (first | refine nil_ ?_ | refine ret_ ?_ | refine stepY (y_assign rfl) rfl ?_ | refine stepY (y_extract rfl rfl) rfl ?_ | refine stepE (e_store rfl rfl rfl rfl rfl rfl rfl) ?_)
                ((apply fin_r); (repeat (first | exact .nil | exact .tmp rfl | exact .agg rfl rfl rfl | apply ResL.cons)); (repeat (exact .refl _)))
          · clear hnb
            cases h2 : PR (botS s) with
            | none =>
              rw [h2] at hq
              unfold prV at hq
              repeat (first | refine seq_ ?_ | refine region_ ?_ | refine stepY (y_move rfl) rfl ?_ | refine stepY (y_slice_str_h rfl rfl (by omega) (by omega)) rfl ?_)
              rw [htop]
              skip
              refine call_ Tryz.func56 rfl rfl (hp) rfl (by repeat (first | exact .refl _ | apply Les.cons | exact .nil)) rfl ?_
              repeat (first | refine seq_ ?_ | refine region_ ?_ | refine nil_ ?_ | refine skip_ ?_ | refine cond_f rfl ?_ | refine guard_f rfl rfl rfl rfl ?_ | refine stepY (y_move rfl) rfl ?_ | refine stepY (y_assign rfl) rfl ?_ | refine stepY (y_extract rfl rfl) rfl ?_ | refine stepY (y_len_str rfl) rfl ?_ | refine stepY (y_pick_f rfl rfl) rfl ?_ | refine stepY (y_slice_str_l rfl rfl (by omega) (by omega)) rfl ?_ | refine stepY (y_binn rfl rfl rfl (by simp only [InK, loK, hiK]; omega)) rfl ?_ | refine stepY (y_cmpF rfl rfl rfl (by omega)) rfl ?_ | refine stepY (y_cmpF rfl rfl rfl (by omega)) rfl ?_ | refine stepY (y_cmpF rfl rfl rfl (by omega)) rfl ?_ | refine stepE (e_alloc rfl rfl rfl) ?_ | refine stepE (e_store rfl rfl rfl rfl rfl rfl rfl) ?_)
              rw [hbot]
              refine call_ Tryz.func56 rfl rfl (hq) rfl (by repeat (first | exact .refl _ | apply Les.cons | exact .nil)) rfl ?_
              repeat (first | refine seq_ ?_ | refine region_ ?_ | refine nil_ ?_ | refine ret_ ?_ | refine cond_t rfl ?_ | refine stepY (y_move rfl) rfl ?_ | refine stepY (y_assign rfl) rfl ?_ | refine stepY (y_extract rfl rfl) rfl ?_ | refine stepY (y_build rfl rfl rfl) rfl ?_ | refine stepY (y_cmpT rfl rfl rfl (by omega)) rfl ?_ | refine stepE (e_alloc rfl rfl rfl) ?_ | refine stepE (e_store rfl rfl rfl rfl rfl rfl rfl) ?_)
              ((apply fin_r); (repeat (first | exact .nil | exact .tmp rfl | exact .agg rfl rfl rfl | apply ResL.cons)); (repeat (first | exact .refl _ | exact .nil _ _ | apply Le.ag | apply Le.tp | apply Les.cons | exact .nil)))
            | some o =>
              cases o with
              | none =>
                rw [h2] at hq
                unfold prV at hq
                repeat (first | refine seq_ ?_ | refine region_ ?_ | refine stepY (y_move rfl) rfl ?_ | refine stepY (y_slice_str_h rfl rfl (by omega) (by omega)) rfl ?_)
                rw [htop]
                skip
                refine call_ Tryz.func56 rfl rfl (hp) rfl (by repeat (first | exact .refl _ | apply Les.cons | exact .nil)) rfl ?_
                repeat (first | refine seq_ ?_ | refine region_ ?_ | refine nil_ ?_ | refine skip_ ?_ | refine cond_f rfl ?_ | refine guard_f rfl rfl rfl rfl ?_ | refine stepY (y_move rfl) rfl ?_ | refine stepY (y_assign rfl) rfl ?_ | refine stepY (y_extract rfl rfl) rfl ?_ | refine stepY (y_len_str rfl) rfl ?_ | refine stepY (y_pick_f rfl rfl) rfl ?_ | refine stepY (y_slice_str_l rfl rfl (by omega) (by omega)) rfl ?_ | refine stepY (y_binn rfl rfl rfl (by simp only [InK, loK, hiK]; omega)) rfl ?_ | refine stepY (y_cmpF rfl rfl rfl (by omega)) rfl ?_ | refine stepY (y_cmpF rfl rfl rfl (by omega)) rfl ?_ | refine stepY (y_cmpF rfl rfl rfl (by omega)) rfl ?_ | refine stepE (e_alloc rfl rfl rfl) ?_ | refine stepE (e_store rfl rfl rfl rfl rfl rfl rfl) ?_)
                rw [hbot]
                refine call_ Tryz.func56 rfl rfl (hq) rfl (by repeat (first | exact .refl _ | apply Les.cons | exact .nil)) rfl ?_
                repeat (first | refine seq_ ?_ | refine region_ ?_ | refine nil_ ?_ | refine ret_ ?_ | refine cond_t rfl ?_ | refine stepY (y_move rfl) rfl ?_ | refine stepY (y_assign rfl) rfl ?_ | refine stepY (y_extract rfl rfl) rfl ?_ | refine stepY (y_build rfl rfl rfl) rfl ?_ | refine stepY (y_cmpT rfl rfl rfl (by omega)) rfl ?_ | refine stepE (e_alloc rfl rfl rfl) ?_ | refine stepE (e_store rfl rfl rfl rfl rfl rfl rfl) ?_)
                ((apply fin_r); (repeat (first | exact .nil | exact .tmp rfl | exact .agg rfl rfl rfl | apply ResL.cons)); (repeat (first | exact .refl _ | exact .nil _ _ | apply Le.ag | apply Le.tp | apply Les.cons | exact .nil)))
              | some a =>
                obtain ⟨g', n⟩ := a
                rw [h2] at hq
                unfold prV at hq
                have hN := RNew_i (sgn g m) (sgn g' n) hl1 (PR_ln h2)
                dsimp only
                obtain ⟨qp, qm, qk, qe, hqq⟩ := ofM_ex (sgn g m) (sgn g' n)
                rw [hqq] at hN ⊢
                repeat (first | refine seq_ ?_ | refine region_ ?_ | refine stepY (y_move rfl) rfl ?_ | refine stepY (y_slice_str_h rfl rfl (by omega) (by omega)) rfl ?_)
                rw [htop]
                skip
                refine call_ Tryz.func56 rfl rfl (hp) rfl (by repeat (first | exact .refl _ | apply Les.cons | exact .nil)) rfl ?_
                repeat (first | refine seq_ ?_ | refine region_ ?_ | refine nil_ ?_ | refine skip_ ?_ | refine cond_f rfl ?_ | refine guard_f rfl rfl rfl rfl ?_ | refine stepY (y_move rfl) rfl ?_ | refine stepY (y_assign rfl) rfl ?_ | refine stepY (y_extract rfl rfl) rfl ?_ | refine stepY (y_len_str rfl) rfl ?_ | refine stepY (y_pick_f rfl rfl) rfl ?_ | refine stepY (y_slice_str_l rfl rfl (by omega) (by omega)) rfl ?_ | refine stepY (y_binn rfl rfl rfl (by simp only [InK, loK, hiK]; omega)) rfl ?_ | refine stepY (y_cmpF rfl rfl rfl (by omega)) rfl ?_ | refine stepY (y_cmpF rfl rfl rfl (by omega)) rfl ?_ | refine stepY (y_cmpF rfl rfl rfl (by omega)) rfl ?_ | refine stepE (e_alloc rfl rfl rfl) ?_ | refine stepE (e_store rfl rfl rfl rfl rfl rfl rfl) ?_)
                rw [hbot]
                refine call_ Tryz.func56 rfl rfl (hq) rfl (by repeat (first | exact .refl _ | apply Les.cons | exact .nil)) rfl ?_
                repeat (first | refine seq_ ?_ | refine region_ ?_ | refine nil_ ?_ | refine skip_ ?_ | refine cond_f rfl ?_ | refine stepY (y_move rfl) rfl ?_ | refine stepY (y_assign rfl) rfl ?_ | refine stepY (y_loadA rfl rfl rfl) rfl ?_ | refine stepY (y_extract rfl rfl) rfl ?_ | refine stepY (y_cmpF rfl rfl rfl (by omega)) rfl ?_ | refine stepE (e_alloc rfl rfl rfl) ?_ | refine stepE (e_store rfl rfl rfl rfl rfl rfl rfl) ?_)
                refine call_ Tryz.func57 rfl rfl (hN) rfl (by repeat (first | exact .refl _ | exact .tag _ _ | apply Le.ag | apply Les.cons | exact .nil)) rfl ?_
                repeat (first | refine nil_ ?_ | refine ret_ ?_ | refine stepY (y_assign rfl) rfl ?_ | refine stepY (y_extract rfl rfl) rfl ?_ | refine stepE (e_store rfl rfl rfl rfl rfl rfl rfl) ?_)
                ((apply fin_r); (repeat (first | exact .nil | exact .tmp rfl | exact .agg rfl rfl rfl | apply ResL.cons)); (repeat (exact .refl _)))
      · rw [if_neg hc]
        have hce : (cutAt s : Int) = s.size := by omega
        have hN := RNew_i (sgn g m) 1 hl1 (by decide)
        obtain ⟨qp, qm, qk, qe, hq⟩ := ofM_ex (sgn g m) 1
        rw [hq] at hN ⊢
        repeat (first | refine seq_ ?_ | refine region_ ?_ | refine stepY (y_move rfl) rfl ?_ | refine stepY (y_slice_str_h rfl rfl (by omega) (by omega)) rfl ?_)
        rw [htop]
        skip
        refine call_ Tryz.func56 rfl rfl (hp) rfl (by repeat (first | exact .refl _ | apply Les.cons | exact .nil)) rfl ?_
        repeat (first | refine seq_ ?_ | refine region_ ?_ | refine nil_ ?_ | refine skip_ ?_ | refine cond_t rfl ?_ | refine cond_f rfl ?_ | refine stepY (y_move rfl) rfl ?_ | refine stepY (y_assign rfl) rfl ?_ | refine stepY (y_extract rfl rfl) rfl ?_ | refine stepY (y_len_str rfl) rfl ?_ | refine stepY (y_cmpT rfl rfl rfl (by omega)) rfl ?_ | refine stepY (y_cmpF rfl rfl rfl (by omega)) rfl ?_ | refine stepE (e_alloc rfl rfl rfl) ?_ | refine stepE (e_store rfl rfl rfl rfl rfl rfl rfl) ?_)
        refine draw_ [(0, true), (1, false), (2, false), (3, true), (4, true), (5, false), (6, true)] 1000 [5] mixed (by kernel_rfl) rfl ?_
        ((refine dY rfl (y_loadA rfl rfl rfl) rfl rfl rfl rfl ?_))
        refine dC rfl Tryz.func58 rfl rfl (hf) rfl (by repeat (first | exact .refl _ | apply Les.cons | exact .nil)) rfl rfl ?_
        skip
        refine dC rfl Tryz.func57 rfl rfl (hN) rfl (by repeat (first | exact .refl _ | exact .tag _ _ | apply Le.ag | apply Les.cons | exact .nil)) rfl rfl ?_
        ((refine dY rfl (y_extract rfl rfl) rfl rfl rfl rfl ?_); refine dY rfl (y_extract rfl rfl) rfl rfl rfl rfl ?_; (refine dE rfl (e_store rfl rfl rfl rfl rfl rfl rfl) rfl rfl ?_); refine dY rfl (y_assign rfl) rfl rfl rfl rfl ?_; refine dEnd ?_)
        repeat (refine ret_ ?_)
        ((apply fin_r); (repeat (first | exact .nil | exact .tmp rfl | exact .agg rfl rfl rfl | apply ResL.cons)); (repeat (exact .refl _)))
end Go.Av
