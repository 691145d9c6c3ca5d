import Derived.Test.YtckngipgcnhfpaaLm
import Derived.Test.YtckngipgcnhfpaaL5
import Derived.Test.YtckngipgcnhfpaaLc
set_option maxHeartbeats 8000000
set_option exponentiation.threshold 100000
set_option maxRecDepth 100000
set_option linter.unusedVariables false
set_option linter.unusedSimpArgs false
namespace Go.Av
open Go Go.Proofs
/-! slices.Reverse -/
theorem rd_rv {l : List Int} {i p : Nat} (h : p < l.length) : rd (rv l i) (p : Int) = if p < i ∨ l.length - i ≤ p then l.getD (l.length - 1 - p) 0 else l.getD p 0 := by
  unfold rd
  rw [Int.toNat_natCast, List.getD, List.getElem?_eq_getElem (by rw [rv_length]; exact h), rv_get h]
  rfl
theorem Reverse8_w (l : List Int) (hll : l.length < 4294967296) : ConW Try.prog 68 (.vec 1000000) [] 5 .u8 l l.reverse (.tp []) := by
  refine conW_of Try.func68 rfl rfl rfl rfl rfl rfl rfl ?_
  repeat (first | refine seq_ ?_ | refine region_ ?_ | refine nil_ ?_ | refine block_ ?_ | refine stepY (y_move rfl) rfl ?_ | refine stepY (y_assign rfl) rfl ?_ | refine stepY (y_len_vi rfl rfl) rfl ?_ | refine stepY (y_binn rfl rfl rfl (by simp only [InK, loK, hiK]; omega)) rfl ?_)
  refine loop_ (α := Nat) (fun i => ([(0, .vec 1000000), (2, .p (I i)), (3, .p (I ((l.length : Int) - 1 - i)))], [(1000000, .vi 5 .u8 (rv l i))])) (fun i => i ≤ l.length) (fun i => l.length - i) 0 (Nat.zero_le _) ?_ ?_ ?_
  · rw [show ((l.length : Int) - 1 - ((0 : Nat) : Int)) = (l.length : Int) - 1 by omega]; (repeat (first | exact sub_nil | refine sub_cons rfl ?_))
  · rw [rv_zero]; (repeat (first | exact subH_nil | refine subH_cons rfl ?_))
  intro i hi
  have hl : (rv l i).length = l.length := rv_length _ _
  by_cases hlt : 2 * i + 1 < l.length
  · obtain ⟨j, hj⟩ : ∃ j, j = l.length - 1 - i := ⟨_, rfl⟩
    have r1 : rd (rv l i) (j : Int) = l.getD (l.length - 1 - i) 0 := by
      rw [rd_rv (by omega), if_neg (by omega), hj]
    have r2 : rd (rv l i) (i : Int) = l.getD i 0 := by
      rw [rd_rv (by omega), if_neg (by omega)]
    have hl2 : ((rv l i).set ((i : Int).toNat) (rd (rv l i) (j : Int))).length = l.length := by rw [List.length_set, hl]
    rw [show ((l.length : Int) - 1 - (i : Int)) = (j : Int) by omega]
    repeat (first | refine seq_ ?_ | refine region_ ?_ | refine nil_ ?_ | refine skip_ ?_ | refine block_ ?_ | refine cond_t rfl ?_ | refine stepY (y_move rfl) rfl ?_ | refine stepY (y_cmpT rfl rfl rfl (by omega)) rfl ?_)
    refine draw_ [(0, true), (1, true), (2, true), (3, true), (4, true), (5, true), (6, true), (7, true), (8, true), (9, true), (10, true), (11, true), (12, true), (13, false), (14, true), (15, false)] 13 [1000000] mixed (by kernel_rfl) rfl ?_
    ((refine dY rfl (y_move rfl) rfl rfl rfl rfl ?_); refine dY rfl (y_move rfl) rfl rfl rfl rfl ?_; refine dY rfl (y_move rfl) rfl rfl rfl rfl ?_; refine dY rfl (y_move rfl) rfl rfl rfl rfl ?_; refine dY rfl (y_move rfl) rfl rfl rfl rfl ?_; refine dY rfl (y_move rfl) rfl rfl rfl rfl ?_; refine dY rfl (y_index_vi rfl rfl rfl (by omega) (by omega)) rfl rfl rfl rfl ?_; refine dY rfl (y_load_vi rfl rfl (by omega) (by omega)) rfl rfl rfl rfl ?_; refine dY rfl (y_move rfl) rfl rfl rfl rfl ?_; refine dY rfl (y_move rfl) rfl rfl rfl rfl ?_; refine dY rfl (y_index_vi rfl rfl rfl (by omega) (by omega)) rfl rfl rfl rfl ?_; refine dY rfl (y_load_vi rfl rfl (by omega) (by omega)) rfl rfl rfl rfl ?_; refine dY rfl (y_index_vi rfl rfl rfl (by omega) (by omega)) rfl rfl rfl rfl ?_; (refine dX rfl (e_store_vi rfl rfl rfl (by omega) (by omega)) rfl rfl ?_); refine dY rfl (y_index_vi rfl rfl rfl (by omega) (by omega)) rfl rfl rfl rfl ?_; (refine dE rfl (e_store_vi rfl rfl rfl (by omega) (by omega)) rfl rfl ?_); refine dEnd ?_)
    rw [r1, r2, Int.toNat_natCast, Int.toNat_natCast, hj, rv_set hlt]
    repeat (first | refine region_ ?_ | refine nil_ ?_ | refine stepY (y_move rfl) rfl ?_ | refine stepY (y_assign rfl) rfl ?_ | refine stepY (y_binn rfl rfl rfl (by simp only [InK, loK, hiK]; omega)) rfl ?_ | refine stepY (y_binn rfl rfl rfl (by simp only [InK, loK, hiK]; omega)) rfl ?_)
    refine ⟨i + 1, by omega, by omega, ?_, ?_⟩
    · (repeat (first | exact sub_nil | refine sub_cons rfl ?_ | refine sub_conse rfl (by (congr 3; omega)) ?_))
    · (repeat (first | exact subH_nil | refine subH_cons rfl ?_))
  · rw [rv_end (by omega) hi]
    repeat (first | refine seq_ ?_ | refine region_ ?_ | refine nil_ ?_ | refine exit_ ?_ | refine cond_f rfl ?_ | refine stepY (y_move rfl) rfl ?_ | refine stepY (y_cmpF rfl rfl rfl (by omega)) rfl ?_)
    refine ⟨?_, rfl⟩
    ((apply fin_n); (repeat (exact .nil)); (repeat (exact .refl _)))
theorem Reverse64_w (l : List Int) (hll : l.length < 4294967296) : ConW Try.prog 74 (.vec 1000000) [] 3 .i64 l l.reverse (.tp []) := by
  refine conW_of Try.func74 rfl rfl rfl rfl rfl rfl rfl ?_
  repeat (first | refine seq_ ?_ | refine region_ ?_ | refine nil_ ?_ | refine block_ ?_ | refine stepY (y_move rfl) rfl ?_ | refine stepY (y_assign rfl) rfl ?_ | refine stepY (y_len_vi rfl rfl) rfl ?_ | refine stepY (y_binn rfl rfl rfl (by simp only [InK, loK, hiK]; omega)) rfl ?_)
  refine loop_ (α := Nat) (fun i => ([(0, .vec 1000000), (2, .p (I i)), (3, .p (I ((l.length : Int) - 1 - i)))], [(1000000, .vi 3 .i64 (rv l i))])) (fun i => i ≤ l.length) (fun i => l.length - i) 0 (Nat.zero_le _) ?_ ?_ ?_
  · rw [show ((l.length : Int) - 1 - ((0 : Nat) : Int)) = (l.length : Int) - 1 by omega]; (repeat (first | exact sub_nil | refine sub_cons rfl ?_))
  · rw [rv_zero]; (repeat (first | exact subH_nil | refine subH_cons rfl ?_))
  intro i hi
  have hl : (rv l i).length = l.length := rv_length _ _
  by_cases hlt : 2 * i + 1 < l.length
  · obtain ⟨j, hj⟩ : ∃ j, j = l.length - 1 - i := ⟨_, rfl⟩
    have r1 : rd (rv l i) (j : Int) = l.getD (l.length - 1 - i) 0 := by
      rw [rd_rv (by omega), if_neg (by omega), hj]
    have r2 : rd (rv l i) (i : Int) = l.getD i 0 := by
      rw [rd_rv (by omega), if_neg (by omega)]
    have hl2 : ((rv l i).set ((i : Int).toNat) (rd (rv l i) (j : Int))).length = l.length := by rw [List.length_set, hl]
    rw [show ((l.length : Int) - 1 - (i : Int)) = (j : Int) by omega]
    repeat (first | refine seq_ ?_ | refine region_ ?_ | refine nil_ ?_ | refine skip_ ?_ | refine block_ ?_ | refine cond_t rfl ?_ | refine stepY (y_move rfl) rfl ?_ | refine stepY (y_cmpT rfl rfl rfl (by omega)) rfl ?_)
    refine draw_ [(0, true), (1, true), (2, true), (3, true), (4, true), (5, true), (6, true), (7, true), (8, true), (9, true), (10, true), (11, true), (12, true), (13, false), (14, true), (15, false)] 13 [1000000] mixed (by kernel_rfl) rfl ?_
    ((refine dY rfl (y_move rfl) rfl rfl rfl rfl ?_); refine dY rfl (y_move rfl) rfl rfl rfl rfl ?_; refine dY rfl (y_move rfl) rfl rfl rfl rfl ?_; refine dY rfl (y_move rfl) rfl rfl rfl rfl ?_; refine dY rfl (y_move rfl) rfl rfl rfl rfl ?_; refine dY rfl (y_move rfl) rfl rfl rfl rfl ?_; refine dY rfl (y_index_vi rfl rfl rfl (by omega) (by omega)) rfl rfl rfl rfl ?_; refine dY rfl (y_load_vi rfl rfl (by omega) (by omega)) rfl rfl rfl rfl ?_; refine dY rfl (y_move rfl) rfl rfl rfl rfl ?_; refine dY rfl (y_move rfl) rfl rfl rfl rfl ?_; refine dY rfl (y_index_vi rfl rfl rfl (by omega) (by omega)) rfl rfl rfl rfl ?_; refine dY rfl (y_load_vi rfl rfl (by omega) (by omega)) rfl rfl rfl rfl ?_; refine dY rfl (y_index_vi rfl rfl rfl (by omega) (by omega)) rfl rfl rfl rfl ?_; (refine dX rfl (e_store_vi rfl rfl rfl (by omega) (by omega)) rfl rfl ?_); refine dY rfl (y_index_vi rfl rfl rfl (by omega) (by omega)) rfl rfl rfl rfl ?_; (refine dE rfl (e_store_vi rfl rfl rfl (by omega) (by omega)) rfl rfl ?_); refine dEnd ?_)
    rw [r1, r2, Int.toNat_natCast, Int.toNat_natCast, hj, rv_set hlt]
    repeat (first | refine region_ ?_ | refine nil_ ?_ | refine stepY (y_move rfl) rfl ?_ | refine stepY (y_assign rfl) rfl ?_ | refine stepY (y_binn rfl rfl rfl (by simp only [InK, loK, hiK]; omega)) rfl ?_ | refine stepY (y_binn rfl rfl rfl (by simp only [InK, loK, hiK]; omega)) rfl ?_)
    refine ⟨i + 1, by omega, by omega, ?_, ?_⟩
    · (repeat (first | exact sub_nil | refine sub_cons rfl ?_ | refine sub_conse rfl (by (congr 3; omega)) ?_))
    · (repeat (first | exact subH_nil | refine subH_cons rfl ?_))
  · rw [rv_end (by omega) hi]
    repeat (first | refine seq_ ?_ | refine region_ ?_ | refine nil_ ?_ | refine exit_ ?_ | refine cond_f rfl ?_ | refine stepY (y_move rfl) rfl ?_ | refine stepY (y_cmpF rfl rfl rfl (by omega)) rfl ?_)
    refine ⟨?_, rfl⟩
    ((apply fin_n); (repeat (exact .nil)); (repeat (exact .refl _)))

/-! digits -/
theorem digits_r (n b : Nat) (hl : ln n ≤ 1000000) (hb : 2 ≤ b) (hb2 : b < 4294967296) : ConR Try.prog 67 [M n, U b] 3 .i64 (dI b n) := by
  refine conR_of Try.func67 rfl rfl rfl rfl rfl ?_
  have hdl := dI_len hb hl
  repeat (first | refine seq_ ?_ | refine region_ ?_ | refine nil_ ?_ | refine block_ ?_ | refine stepY (y_assign rfl) rfl ?_)
  refine nil_C (i := 5) 3 .i64 rfl rfl rfl ?_
  refine loop_ (α := Nat × List Int) (fun y => ([(0, .p (M y.1)), (1, .p (U b)), (5, .vec 5)], [(5, .vi 3 .i64 y.2)])) (fun y => ln y.1 ≤ 1000000 ∧ y.2 ++ dI b y.1 = dI b n) (fun y => y.1) (n, []) ⟨hl, rfl⟩ ?_ ?_ ?_
  · (repeat (first | exact sub_nil | refine sub_cons rfl ?_))
  · (repeat (first | exact subH_nil | refine subH_cons rfl ?_))
  intro ⟨m, o⟩ ⟨hm, ho⟩
  dsimp only at hm ho ⊢
  have hlen : ((limbs m).length : Int) = ln m := by rw [limbs_length]
  have hol : o.length + (dI b m).length = (dI b n).length := by rw [← ho, List.length_append]
  by_cases h0 : 0 < m
  · have h1 := ln_pos.2 h0
    have hd := Divided_c (limbs m) b (wf_limbs m) (by rw [limbs_length]; omega) (by omega) hb2
    rw [val_limbs] at hd
    have hmod := Nat.mod_lt m (show 0 < b by omega)
    have hlm := ln_mono (Nat.div_le_self m b)
    rw [dI_pos hb h0] at ho
    repeat (first | refine seq_ ?_ | refine region_ ?_ | refine nil_ ?_ | refine skip_ ?_ | refine block_ ?_ | refine cond_t rfl ?_ | refine stepY (y_move rfl) rfl ?_ | refine stepY (y_len_si rfl) rfl ?_ | refine stepY (y_cmpT rfl rfl rfl (by omega)) rfl ?_)
    refine call_ Try.func78 rfl rfl hd rfl (by repeat (first | exact .refl _ | apply Les.cons | exact .nil)) rfl ?_
    repeat (first | refine seq_ ?_ | refine region_ ?_ | refine nil_ ?_ | refine stepY (y_move rfl) rfl ?_ | refine stepY (y_assign rfl) rfl ?_ | refine stepY (y_extract rfl rfl) rfl ?_ | refine stepY (y_convn rfl (by simp only [InK, loK, hiK]; omega)) rfl ?_ | refine stepE (e_bs_vi (k := .i64) rfl rfl rfl rfl rfl) ?_)
    refine stepE (e_app_vi rfl rfl rfl (src_vi rfl rfl) (by simp only [List.length_cons, List.length_nil]; omega) rfl rfl) ?_
    repeat (first | refine region_ ?_ | refine nil_ ?_ | refine stepY (y_move rfl) rfl ?_ | refine stepY (y_assign rfl) rfl ?_)
    refine ⟨(m / b, o ++ [((m % b : Nat) : Int)]), ⟨by show ln (m / b) ≤ 1000000; omega, by rw [List.append_assoc]; exact ho⟩, Nat.div_lt_self h0 (by omega), ?_, ?_⟩
    · (repeat (first | exact sub_nil | refine sub_cons rfl ?_))
    · (repeat (first | exact subH_nil | refine subH_cons rfl ?_))
  · obtain rfl : m = 0 := by omega
    rw [dI_zero, List.append_nil] at ho
    subst ho
    have h1 : ln 0 = 0 := rfl
    repeat (first | refine seq_ ?_ | refine region_ ?_ | refine nil_ ?_ | refine exit_ ?_ | refine ret_ ?_ | refine cond_f rfl ?_ | refine stepY (y_move rfl) rfl ?_ | refine stepY (y_assign rfl) rfl ?_ | refine stepY (y_len_si rfl) rfl ?_ | refine stepY (y_cmpF rfl rfl rfl (by omega)) rfl ?_)
    exact ⟨.inr rfl, _, _, rfl, rfl, rfl, rfl⟩

/-! Format -/
def fmtL (p : Bool) (m : Nat) : List Int := (dI 10 m).map (fun d => 48 + d) ++ (if p then [45] else [])
def fmt (p : Bool) (m : Nat) : ByteArray := if m = 0 then ⟨#[48]⟩ else strOfNums (fmtL p m).reverse
theorem Format_e (p : Bool) (l : List Int) (h : vldB p l = false) : Con Try.prog 25 [AV p l] (.v (.string ⟨#[]⟩)) := by
  refine con_of Try.func25 rfl rfl rfl rfl rfl ?_
  have hv := Valid_c p l
  rw [h] at hv
  repeat (first | refine seq_ ?_ | refine region_ ?_ | refine nil_ ?_ | refine block_ ?_ | refine stepY (y_assign rfl) rfl ?_ | refine stepY (y_loadA rfl rfl rfl) rfl ?_ | refine stepE (e_box rfl rfl rfl rfl rfl rfl) ?_)
  refine call_ Try.func29 rfl rfl hv rfl (by repeat (first | exact .refl _ | apply Les.cons | exact .nil)) rfl ?_
  repeat (first | refine seq_ ?_ | refine region_ ?_ | refine nil_ ?_ | refine ret_ ?_ | refine cond_t rfl ?_ | refine stepY (y_assign rfl) rfl ?_ | refine stepY (y_not rfl) rfl ?_)
  ((apply fin_r); (repeat (first | exact .nil | exact .tmp rfl | apply ResL.cons)); (repeat (exact .refl _)))
theorem RFormat_e (p : Bool) (l : List Int) (h : vldB p l = false) : Con Try.prog 26 [AV p l] (.v (.string ⟨#[]⟩)) := by
  refine con_of Try.func26 rfl rfl rfl rfl rfl ?_
  have hv := RValid_c p l
  rw [h] at hv
  repeat (first | refine seq_ ?_ | refine region_ ?_ | refine nil_ ?_ | refine stepY (y_assign rfl) rfl ?_ | refine stepY (y_loadA rfl rfl rfl) rfl ?_ | refine stepE (e_box rfl rfl rfl rfl rfl rfl) ?_)
  refine call_ Try.func33 rfl rfl hv rfl (by repeat (first | exact .refl _ | apply Les.cons | exact .nil)) rfl ?_
  repeat (first | refine seq_ ?_ | refine region_ ?_ | refine nil_ ?_ | refine ret_ ?_ | refine cond_t rfl ?_ | refine stepY (y_assign rfl) rfl ?_ | refine stepY (y_not rfl) rfl ?_)
  ((apply fin_r); (repeat (first | exact .nil | exact .tmp rfl | apply ResL.cons)); (repeat (exact .refl _)))
theorem take_rd {l : List Int} {k : Nat} (h : k < l.length) (f : Int → Int) : (l.map f).take k ++ [f (rd l k)] = (l.map f).take (k + 1) := by
  unfold rd
  rw [Int.toNat_natCast, List.take_succ_eq_append_getElem (by simpa using h)]
  simp [List.getD, h]
theorem rd_mem {l : List Int} {k : Nat} (h : k < l.length) : rd l k ∈ l := by
  unfold rd
  rw [Int.toNat_natCast, List.getD, List.getElem?_eq_getElem h]
  exact List.getElem_mem h
theorem Format_s (p : Bool) (m : Nat) (hp : vldB p (limbs m) = true) : Con Try.prog 25 [SV p m] (.v (.string (fmt p m))) := by
  refine con_of Try.func25 rfl rfl rfl rfl rfl ?_
  have hv := Valid_c p (limbs m)
  rw [hp] at hv
  have hlm := vld_ln hp
  have hlen : ((limbs m).length : Int) = ln m := by rw [limbs_length]
  by_cases h0 : m = 0
  · subst h0
    have h1 : ln 0 = 0 := rfl
    unfold fmt
    rw [if_pos rfl]
    repeat (first | refine seq_ ?_ | refine region_ ?_ | refine nil_ ?_ | refine block_ ?_ | refine stepY (y_assign rfl) rfl ?_ | refine stepY (y_loadA rfl rfl rfl) rfl ?_ | refine stepE (e_box rfl rfl rfl rfl rfl rfl) ?_)
    refine call_ Try.func29 rfl rfl hv rfl (by repeat (first | exact .refl _ | apply Les.cons | exact .nil)) rfl ?_
    repeat (first | refine seq_ ?_ | refine region_ ?_ | refine nil_ ?_ | refine ret_ ?_ | refine cond_t rfl ?_ | refine cond_f rfl ?_ | refine stepY (y_assign rfl) rfl ?_ | refine stepY (y_load1 rfl rfl rfl) rfl ?_ | refine stepY (y_fieldAddr rfl) rfl ?_ | refine stepY (y_len_si rfl) rfl ?_ | refine stepY (y_not rfl) rfl ?_ | refine stepY (y_cmpT rfl rfl rfl (by omega)) rfl ?_)
    ((apply fin_r); (repeat (first | exact .nil | exact .tmp rfl | apply ResL.cons)); (repeat (exact .refl _)))
  · have h1 := ln_pos.2 (Nat.pos_of_ne_zero h0)
    have hdl := dI_len (b := 10) (by decide) hlm
    have hd := (digits_r m 10 (by omega) (by decide) (by decide)).con
    unfold fmt
    rw [if_neg h0]
    repeat (first | refine seq_ ?_ | refine region_ ?_ | refine nil_ ?_ | refine block_ ?_ | refine stepY (y_assign rfl) rfl ?_ | refine stepY (y_loadA rfl rfl rfl) rfl ?_ | refine stepE (e_box rfl rfl rfl rfl rfl rfl) ?_)
    refine call_ Try.func29 rfl rfl hv rfl (by repeat (first | exact .refl _ | apply Les.cons | exact .nil)) rfl ?_
    repeat (first | refine seq_ ?_ | refine region_ ?_ | refine nil_ ?_ | refine skip_ ?_ | refine cond_f rfl ?_ | refine stepY (y_assign rfl) rfl ?_ | refine stepY (y_load1 rfl rfl rfl) rfl ?_ | refine stepY (y_fieldAddr rfl) rfl ?_ | refine stepY (y_len_si rfl) rfl ?_ | refine stepY (y_not rfl) rfl ?_ | refine stepY (y_cmpF rfl rfl rfl (by omega)) rfl ?_)
    refine nil_L (i := 3) 5 .u8 rfl rfl rfl ?_
    refine call_ Try.func67 rfl rfl hd rfl (by repeat (first | exact .refl _ | apply Les.cons | exact .nil)) rfl ?_
    repeat (first | refine nil_ ?_ | refine block_ ?_ | refine stepY (y_move rfl) rfl ?_ | refine stepY (y_len_si rfl) rfl ?_)
    refine loop_ (α := Nat) (fun k => ([(1, .ptr 1 0), (3, .vec 3), (17, .p (.si true .i64 (dI 10 m))), (18, .p (I (dI 10 m).length)), (19, .p (I k))], [(1, .bx [Bo p, M m]), (3, .vi 5 .u8 (((dI 10 m).map fun d => 48 + d).take k))])) (fun k => k ≤ (dI 10 m).length) (fun k => (dI 10 m).length - k) 0 (Nat.zero_le _) ?_ ?_ ?_
    · (repeat (first | exact sub_nil | refine sub_cons rfl ?_))
    · (repeat (first | exact subH_nil | refine subH_cons rfl ?_))
    intro k hk
    by_cases hlt : k < (dI 10 m).length
    · have hbd := dI_bd (by decide) (rd_mem hlt)
      have htl : (((dI 10 m).map fun d => 48 + d).take k).length = k := by rw [List.length_take, List.length_map]; omega
      repeat (first | refine seq_ ?_ | refine region_ ?_ | refine nil_ ?_ | refine skip_ ?_ | refine block_ ?_ | refine cond_t rfl ?_ | refine stepY (y_move rfl) rfl ?_ | refine stepY (y_assign rfl) rfl ?_ | refine stepY (y_load_rc1 rfl rfl) rfl ?_ | refine stepY (y_convn rfl (by simp only [InK, loK, hiK]; omega)) rfl ?_ | refine stepY (y_index_si rfl rfl (by omega) (by omega)) rfl ?_ | refine stepY (y_binn rfl rfl rfl (by simp only [InK, loK, hiK]; omega)) rfl ?_ | refine stepY (y_cmpT rfl rfl rfl (by omega)) rfl ?_ | refine stepE (e_bs_vi (k := .u8) rfl rfl rfl rfl rfl) ?_)
      refine stepE (e_app_vi rfl rfl rfl (src_vi rfl rfl) (by simp only [List.length_cons, List.length_nil]; omega) rfl rfl) ?_
      repeat (first | refine region_ ?_ | refine nil_ ?_ | refine stepY (y_move rfl) rfl ?_ | refine stepY (y_assign rfl) rfl ?_ | refine stepY (y_binn rfl rfl rfl (by simp only [InK, loK, hiK]; omega)) rfl ?_)
      rw [take_rd hlt]
      refine ⟨k + 1, by omega, by omega, ?_, ?_⟩ <;> (repeat (first | exact sub_nil | exact subH_nil | refine sub_cons rfl ?_ | refine subH_cons rfl ?_))
    · obtain rfl : k = (dI 10 m).length := by omega
      rw [show (((dI 10 m).map fun d => 48 + d).take (dI 10 m).length) = (dI 10 m).map fun d => 48 + d by rw [List.take_of_length_le (by simp)]]
      have hml : ((dI 10 m).map fun d => 48 + d).length = (dI 10 m).length := by simp
      have hrv := Reverse8_w (fmtL p m) (by unfold fmtL; rw [List.length_append, hml]; cases p <;> simp <;> omega)
      cases p with
      | false =>
        have e : fmtL false m = (dI 10 m).map fun d => 48 + d := by simp [fmtL]
        rw [e] at hrv ⊢
        repeat (first | refine seq_ ?_ | refine region_ ?_ | refine nil_ ?_ | refine skip_ ?_ | refine exit_ ?_ | refine cond_f rfl ?_ | refine stepY (y_move rfl) rfl ?_ | refine stepY (y_load1 rfl rfl rfl) rfl ?_ | refine stepY (y_fieldAddr rfl) rfl ?_ | refine stepY (y_cmpF rfl rfl rfl (by omega)) rfl ?_)
        refine callW_ Try.func68 rfl rfl hrv rfl rfl rfl (by repeat (exact .nil)) rfl ?_
        repeat (first | refine seq_ ?_ | refine region_ ?_ | refine nil_ ?_ | refine stepY (y_move rfl) rfl ?_)
        refine seal_L (i := 37) (h := 3) rfl rfl rfl rfl ?_
        repeat (first | refine nil_ ?_ | refine ret_ ?_ | refine stepY (y_assign rfl) rfl ?_ | refine stepY (y_str_si rfl) rfl ?_)
        ((apply fin_r); (repeat (first | exact .nil | exact .tmp rfl | apply ResL.cons)); (repeat (exact .refl _)))
      | true =>
        have e : fmtL true m = ((dI 10 m).map fun d => 48 + d) ++ [45] := by simp [fmtL]
        rw [e] at hrv ⊢
        repeat (first | refine seq_ ?_ | refine region_ ?_ | refine nil_ ?_ | refine exit_ ?_ | refine cond_t rfl ?_ | refine cond_f rfl ?_ | refine stepY (y_move rfl) rfl ?_ | refine stepY (y_load1 rfl rfl rfl) rfl ?_ | refine stepY (y_fieldAddr rfl) rfl ?_ | refine stepY (y_cmpF rfl rfl rfl (by omega)) rfl ?_ | refine stepE (e_bs_vi (k := .u8) rfl rfl rfl rfl rfl) ?_)
        refine stepE (e_app_vi rfl rfl rfl (src_vi rfl rfl) (by simp only [List.length_cons, List.length_nil]; omega) rfl rfl) ?_
        repeat (first | refine seq_ ?_ | refine region_ ?_ | refine nil_ ?_ | refine stepY (y_move rfl) rfl ?_ | refine stepY (y_assign rfl) rfl ?_)
        refine callW_ Try.func68 rfl rfl hrv rfl rfl rfl (by repeat (exact .nil)) rfl ?_
        repeat (first | refine seq_ ?_ | refine region_ ?_ | refine nil_ ?_ | refine stepY (y_move rfl) rfl ?_)
        refine seal_L (i := 37) (h := 3) rfl rfl rfl rfl ?_
        repeat (first | refine nil_ ?_ | refine ret_ ?_ | refine stepY (y_assign rfl) rfl ?_ | refine stepY (y_str_si rfl) rfl ?_)
        ((apply fin_r); (repeat (first | exact .nil | exact .tmp rfl | apply ResL.cons)); (repeat (exact .refl _)))
end Go.Av
