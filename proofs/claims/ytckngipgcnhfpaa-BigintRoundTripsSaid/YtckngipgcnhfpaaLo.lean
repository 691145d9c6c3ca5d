import Derived.Test.YtckngipgcnhfpaaLn
set_option maxHeartbeats 8000000
set_option exponentiation.threshold 100000
set_option maxRecDepth 100000
set_option linter.unusedVariables false
set_option linter.unusedSimpArgs false
namespace Go.Av
open Go Go.Proofs
/-! barscanref02.Format -/
theorem drop_rd {l : List Int} {k : Nat} (h : k < l.length) : (l.drop (k + 1)).reverse ++ [rd l k] = (l.drop k).reverse := by
  unfold rd
  rw [Int.toNat_natCast, List.getD, List.getElem?_eq_getElem h, List.drop_eq_getElem_cons h, List.reverse_cons]
  rfl
theorem RFormat_s (p : Bool) (m : Nat) (hp : vldB p (limbs m) = true) : Con Try.prog 26 [SV p m] (.v (.string (fmt p m))) := by
  refine con_of Try.func26 rfl rfl rfl rfl rfl ?_
  have hv := RValid_c p (limbs m)
  rw [hp] at hv
  have hlm := vld_ln hp
  have hlen : ((limbs m).length : Int) = ln m := by rw [limbs_length]
  have hdl := dI_len (b := 10) (by decide) hlm
  repeat (first | refine seq_ ?_ | refine region_ ?_ | refine nil_ ?_ | refine stepY (y_assign rfl) rfl ?_ | refine stepY (y_loadA rfl rfl rfl) rfl ?_ | refine stepE (e_box rfl rfl rfl rfl rfl rfl) ?_)
  refine call_ Try.func33 rfl rfl hv rfl (by repeat (first | exact .refl _ | apply Les.cons | exact .nil)) rfl ?_
  repeat (first | refine seq_ ?_ | refine region_ ?_ | refine nil_ ?_ | refine skip_ ?_ | refine block_ ?_ | refine cond_f rfl ?_ | refine stepY (y_assign rfl) rfl ?_ | refine stepY (y_load1 rfl rfl rfl) rfl ?_ | refine stepY (y_fieldAddr rfl) rfl ?_ | refine stepY (y_not rfl) rfl ?_)
  refine nil_C (i := 3) 5 .u8 rfl rfl rfl ?_
  skip
  refine loop_ (α := Nat × List Int) (fun y => ([(1, .ptr 1 0), (3, .vec 3), (4, .p (M y.1))], [(1, .bx [Bo p, M m]), (3, .vi 5 .u8 y.2)])) (fun y => ln y.1 ≤ 512 ∧ y.2 ++ (dI 10 y.1).map (fun d => 48 + d) = (dI 10 m).map (fun d => 48 + d)) (fun y => y.1) (m, []) ⟨hlm, rfl⟩ ?_ ?_ ?_
  · (repeat (first | exact sub_nil | refine sub_cons rfl ?_))
  · (repeat (first | exact subH_nil | refine subH_cons rfl ?_))
  intro ⟨x, o⟩ ⟨hx, ho⟩
  dsimp only at hx ho ⊢
  have hxl : ((limbs x).length : Int) = ln x := by rw [limbs_length]
  have hol : o.length + (dI 10 x).length = (dI 10 m).length := by
    have := congrArg List.length ho
    simpa using this
  by_cases h0 : 0 < x
  · have h1 := ln_pos.2 h0
    have hd := (short_c x 10 (by omega) (by decide) (by decide)).le (.tp (.cons (.tag _ _) (.cons (.refl _) .nil)))
    have hmod := Nat.mod_lt x (show 0 < 10 by omega)
    have hlx := ln_mono (Nat.div_le_self x 10)
    rw [dI_pos (by decide) h0, List.map_cons] at ho
    repeat (first | refine seq_ ?_ | refine region_ ?_ | refine nil_ ?_ | refine skip_ ?_ | refine block_ ?_ | refine cond_t rfl ?_ | refine stepY (y_move rfl) rfl ?_ | refine stepY (y_len_si rfl) rfl ?_ | refine stepY (y_cmpT rfl rfl rfl (by omega)) rfl ?_)
    refine call_ Try.func69 rfl rfl hd rfl (by repeat (first | exact .refl _ | apply Les.cons | exact .nil)) rfl ?_
    repeat (first | refine seq_ ?_ | refine region_ ?_ | refine nil_ ?_ | refine stepY (y_move rfl) rfl ?_ | refine stepY (y_assign rfl) rfl ?_ | refine stepY (y_extract rfl rfl) rfl ?_ | refine stepY (y_convn rfl (by simp only [InK, loK, hiK]; omega)) rfl ?_ | refine stepY (y_binn rfl rfl rfl (by simp only [InK, loK, hiK]; omega)) rfl ?_ | refine stepE (e_bs_vi (k := .u8) rfl rfl rfl rfl rfl) ?_)
    refine stepE (e_app_vi rfl rfl rfl (src_vi rfl rfl) (by simp only [List.length_cons, List.length_nil]; omega) rfl rfl) ?_
    repeat (first | refine region_ ?_ | refine nil_ ?_ | refine stepY (y_move rfl) rfl ?_ | refine stepY (y_assign rfl) rfl ?_)
    refine ⟨(x / 10, o ++ [48 + ((x % 10 : Nat) : Int)]), ⟨by show ln (x / 10) ≤ 512; omega, by rw [List.append_assoc]; exact ho⟩, Nat.div_lt_self h0 (by omega), ?_, ?_⟩
    · (repeat (first | exact sub_nil | refine sub_cons rfl ?_))
    · (repeat (first | exact subH_nil | refine subH_cons rfl ?_))
  · obtain rfl : x = 0 := by omega
    rw [dI_zero, List.map_nil, List.append_nil] at ho
    have hx0 : ln 0 = 0 := rfl
    unfold fmt
    by_cases hm0 : m = 0
    · subst hm0
      rw [dI_zero, List.map_nil] at ho
      subst ho
      rw [if_pos rfl]
      have : ([] : List Int).length = 0 := rfl
      repeat (first | refine seq_ ?_ | refine region_ ?_ | refine nil_ ?_ | refine exit_ ?_ | refine ret_ ?_ | refine cond_t rfl ?_ | refine cond_f rfl ?_ | refine stepY (y_move rfl) rfl ?_ | refine stepY (y_assign rfl) rfl ?_ | (first | refine stepY (y_len_si rfl) rfl ?_ | refine stepY (y_len_vi rfl rfl) rfl ?_) | refine stepY (y_cmpT rfl rfl rfl (by omega)) rfl ?_ | refine stepY (y_cmpF rfl rfl rfl (by omega)) rfl ?_)
      ((apply fin_r); (repeat (first | exact .nil | exact .tmp rfl | apply ResL.cons)); (repeat (exact .refl _)))
    · rw [if_neg hm0]
      have hne : 0 < (dI 10 m).length := by rw [dI_pos (by decide) (Nat.pos_of_ne_zero hm0)]; simp
      have hol2 : o.length = (dI 10 m).length := by rw [dI_zero] at hol; simpa using hol
      obtain ⟨L, hL⟩ : ∃ L, L = (fmtL p m).length := ⟨_, rfl⟩
      have hlL : ((fmtL p m).length : Int) = L := by rw [hL]
      have hLb : L ≤ 20000 := by rw [hL]; unfold fmtL; rw [List.length_append, List.length_map]; cases p <;> simp <;> omega
      cases p with
      | false =>
        have e : fmtL false m = o := by rw [ho]; simp [fmtL]
        repeat (first | refine seq_ ?_ | refine region_ ?_ | refine nil_ ?_ | refine skip_ ?_ | refine exit_ ?_ | refine block_ ?_ | refine cond_f rfl ?_ | refine stepY (y_move rfl) rfl ?_ | refine stepY (y_assign rfl) rfl ?_ | refine stepY (y_load1 rfl rfl rfl) rfl ?_ | refine stepY (y_fieldAddr rfl) rfl ?_ | (first | refine stepY (y_len_si rfl) rfl ?_ | refine stepY (y_len_vi rfl rfl) rfl ?_) | refine stepY (y_binn rfl rfl rfl (by simp only [InK, loK, hiK]; omega)) rfl ?_ | refine stepY (y_cmpF rfl rfl rfl (by omega)) rfl ?_ | refine stepY (y_cmpF rfl rfl rfl (by omega)) rfl ?_)
        rw [← e]
        try rw [hlL]
        skip
        refine nil_C (i := 7) 5 .u8 rfl rfl rfl ?_
        skip
        try rw [hlL]
        refine loop_ (α := Nat) (fun k => ([(3, .vec 3), (7, .vec 7), (8, .p (I ((k : Int) - 1)))], [(3, .vi 5 .u8 (fmtL false m)), (7, .vi 5 .u8 ((fmtL false m).drop k).reverse)])) (fun k => k ≤ L) id L (Nat.le_refl _) ?_ ?_ ?_
        · (repeat (first | exact sub_nil | refine sub_cons rfl ?_))
        · rw [List.drop_of_length_le (by omega), List.reverse_nil]; (repeat (first | exact subH_nil | refine subH_cons rfl ?_))
        intro k hk
        have hdl2 : ((fmtL false m).drop k).reverse.length = L - k := by simp [hL]
        by_cases hk0 : k = 0
        · subst hk0
          rw [List.drop_zero]
          repeat (first | refine seq_ ?_ | refine region_ ?_ | refine nil_ ?_ | refine exit_ ?_ | refine cond_f rfl ?_ | refine stepY (y_move rfl) rfl ?_ | refine stepY (y_cmpF rfl rfl rfl (by omega)) rfl ?_)
          refine seal_L (i := 51) (h := 7) rfl rfl rfl rfl ?_
          repeat (first | refine nil_ ?_ | refine ret_ ?_ | refine stepY (y_assign rfl) rfl ?_ | refine stepY (y_str_si rfl) rfl ?_)
          ((apply fin_r); (repeat (first | exact .nil | exact .tmp rfl | apply ResL.cons)); (repeat (exact .refl _)))
        · obtain ⟨j, rfl⟩ : ∃ j, k = j + 1 := ⟨k - 1, by omega⟩
          rw [show (((j + 1 : Nat) : Int) - 1) = (j : Int) by omega]
          repeat (first | refine seq_ ?_ | refine region_ ?_ | refine nil_ ?_ | refine skip_ ?_ | refine block_ ?_ | refine cond_t rfl ?_ | refine stepY (y_move rfl) rfl ?_ | refine stepY (y_load_vi rfl rfl (by omega) (by omega)) rfl ?_ | refine stepY (y_index_vi rfl rfl rfl (by omega) (by omega)) rfl ?_ | refine stepY (y_cmpT rfl rfl rfl (by omega)) rfl ?_ | refine stepE (e_bs_vi (k := .u8) rfl rfl rfl rfl rfl) ?_)
          refine stepE (e_app_vi rfl rfl rfl (src_vi rfl rfl) (by simp only [List.length_cons, List.length_nil]; omega) rfl rfl) ?_
          repeat (first | refine region_ ?_ | refine nil_ ?_ | refine stepY (y_move rfl) rfl ?_ | refine stepY (y_assign rfl) rfl ?_ | refine stepY (y_binn rfl rfl rfl (by simp only [InK, loK, hiK]; omega)) rfl ?_)
          rw [drop_rd (by omega)]
          refine ⟨j, by omega, by simp only [id]; omega, ?_, ?_⟩ <;> (repeat (first | exact sub_nil | exact subH_nil | refine sub_cons rfl ?_ | refine subH_cons rfl ?_))
      | true =>
        have e : fmtL true m = o ++ [45] := by rw [ho]; simp [fmtL]
        repeat (first | refine seq_ ?_ | refine region_ ?_ | refine nil_ ?_ | refine skip_ ?_ | refine exit_ ?_ | refine cond_t rfl ?_ | refine cond_f rfl ?_ | refine stepY (y_move rfl) rfl ?_ | refine stepY (y_load1 rfl rfl rfl) rfl ?_ | refine stepY (y_fieldAddr rfl) rfl ?_ | (first | refine stepY (y_len_si rfl) rfl ?_ | refine stepY (y_len_vi rfl rfl) rfl ?_) | refine stepY (y_cmpF rfl rfl rfl (by omega)) rfl ?_ | refine stepY (y_cmpF rfl rfl rfl (by omega)) rfl ?_ | refine stepE (e_bs_vi (k := .u8) rfl rfl rfl rfl rfl) ?_)
        refine stepE (e_app_vi rfl rfl rfl (src_vi rfl rfl) (by simp only [List.length_cons, List.length_nil]; omega) rfl rfl) ?_
        rw [← e]
        try rw [hlL]
        repeat (first | refine seq_ ?_ | refine region_ ?_ | refine nil_ ?_ | refine block_ ?_ | refine stepY (y_move rfl) rfl ?_ | refine stepY (y_assign rfl) rfl ?_ | refine stepY (y_len_vi rfl rfl) rfl ?_ | refine stepY (y_binn rfl rfl rfl (by simp only [InK, loK, hiK]; omega)) rfl ?_)
        refine nil_C (i := 7) 5 .u8 rfl rfl rfl ?_
        skip
        try rw [hlL]
        refine loop_ (α := Nat) (fun k => ([(3, .vec 3), (7, .vec 7), (8, .p (I ((k : Int) - 1)))], [(3, .vi 5 .u8 (fmtL true m)), (7, .vi 5 .u8 ((fmtL true m).drop k).reverse)])) (fun k => k ≤ L) id L (Nat.le_refl _) ?_ ?_ ?_
        · (repeat (first | exact sub_nil | refine sub_cons rfl ?_))
        · rw [List.drop_of_length_le (by omega), List.reverse_nil]; (repeat (first | exact subH_nil | refine subH_cons rfl ?_))
        intro k hk
        have hdl2 : ((fmtL true m).drop k).reverse.length = L - k := by simp [hL]
        by_cases hk0 : k = 0
        · subst hk0
          rw [List.drop_zero]
          repeat (first | refine seq_ ?_ | refine region_ ?_ | refine nil_ ?_ | refine exit_ ?_ | refine cond_f rfl ?_ | refine stepY (y_move rfl) rfl ?_ | refine stepY (y_cmpF rfl rfl rfl (by omega)) rfl ?_)
          refine seal_L (i := 51) (h := 7) rfl rfl rfl rfl ?_
          repeat (first | refine nil_ ?_ | refine ret_ ?_ | refine stepY (y_assign rfl) rfl ?_ | refine stepY (y_str_si rfl) rfl ?_)
          ((apply fin_r); (repeat (first | exact .nil | exact .tmp rfl | apply ResL.cons)); (repeat (exact .refl _)))
        · obtain ⟨j, rfl⟩ : ∃ j, k = j + 1 := ⟨k - 1, by omega⟩
          rw [show (((j + 1 : Nat) : Int) - 1) = (j : Int) by omega]
          repeat (first | refine seq_ ?_ | refine region_ ?_ | refine nil_ ?_ | refine skip_ ?_ | refine block_ ?_ | refine cond_t rfl ?_ | refine stepY (y_move rfl) rfl ?_ | refine stepY (y_load_vi rfl rfl (by omega) (by omega)) rfl ?_ | refine stepY (y_index_vi rfl rfl rfl (by omega) (by omega)) rfl ?_ | refine stepY (y_cmpT rfl rfl rfl (by omega)) rfl ?_ | refine stepE (e_bs_vi (k := .u8) rfl rfl rfl rfl rfl) ?_)
          refine stepE (e_app_vi rfl rfl rfl (src_vi rfl rfl) (by simp only [List.length_cons, List.length_nil]; omega) rfl rfl) ?_
          repeat (first | refine region_ ?_ | refine nil_ ?_ | refine stepY (y_move rfl) rfl ?_ | refine stepY (y_assign rfl) rfl ?_ | refine stepY (y_binn rfl rfl rfl (by simp only [InK, loK, hiK]; omega)) rfl ?_)
          rw [drop_rd (by omega)]
          refine ⟨j, by omega, by simp only [id]; omega, ?_, ?_⟩ <;> (repeat (first | exact sub_nil | exact subH_nil | refine sub_cons rfl ?_ | refine subH_cons rfl ?_))
end Go.Av
