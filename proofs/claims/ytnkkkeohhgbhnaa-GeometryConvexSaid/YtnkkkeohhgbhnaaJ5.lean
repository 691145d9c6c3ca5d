/- Contracts of functions that the laws on fractions reach, and the plain arithmetic behind them: no conditions beyond those in each statement. -/
import Derived.Test.YtnkkkeohhgbhnaaJ1
import Derived.Test.YtnkkkeohhgbhnaaJ3
import Derived.Test.YtnkkkeohhgbhnaaJ4
import Derived.Test.YtnkkkeohhgbhnaaJ2
import Derived.Test.YtnkkkeohhgbhnaaRows
import Derived.WalkKit
import Derived.ProofKit
import Derived.OpenShut
import Derived.ShutString
import Derived.ChangeOld
import Derived.Below
import Derived.SizedLaws
import Derived.Lib.SmallJoins
import Derived.Carry
import Derived.Deep.Slices
set_option maxHeartbeats 8000000
set_option exponentiation.threshold 100000
set_option maxRecDepth 100000
set_option linter.unusedVariables false
set_option linter.unusedSimpArgs false
namespace Go.Av
open Go Go.Proofs
/-! The reference of the fractions: its limbs -/
theorem trim3_c (l : List Int) (hw : wf l) (hl : l.length < 4294967296) : Con Try.prog 87 [Li l] (M (val l)) := by
  refine con_of Try.func87 rfl rfl rfl rfl rfl ?_
  repeat (first | refine seq_ ?_ | refine region_ ?_ | refine nil_ ?_ | refine block_ ?_ | refine stepY (y_move rfl) rfl ?_ | refine stepY (y_assign rfl) rfl ?_ | refine stepY (y_len_si rfl) rfl ?_)
  refine loop_ (α := Nat) (fun k => ([(0, .p (Li l)), (3, .p (I k))], [])) (fun k => k ≤ l.length ∧ val (l.take k) = val l) id l.length ⟨Nat.le_refl _, by simp⟩ ?_ ?_ ?_
  · (repeat (first | exact sub_nil | refine sub_cons rfl ?_))
  · (repeat (exact subH_nil))
  intro k ⟨hk, hv⟩
  have hlen : (l.take k).length = k := by simp; omega
  have hwk : wf (l.take k) := fun x hx => hw x (List.mem_of_mem_take hx)
  have hfin : (k = 0 ∨ rd l ((k : Int) - 1) ≠ 0) → M (val l) = Li (l.take k) := by
    intro h
    unfold M
    rw [← hv, limbs_val hwk]
    rcases h with h | h
    · subst h; exact .inl rfl
    · by_cases h0 : k = 0
      · subst h0; exact .inl rfl
      · right
        rw [hlen, List.getD_eq_getElem?_getD, List.getElem?_take_of_lt (by omega), ← List.getD_eq_getElem?_getD]
        unfold rd at h
        rwa [show ((k : Int) - 1).toNat = k - 1 by omega] at h
  by_cases h0 : (0 : Int) < (k : Int)
  · by_cases h1 : rd l ((k : Int) - 1) = 0
    · repeat (first | refine seq_ ?_ | refine region_ ?_ | refine nil_ ?_ | refine skip_ ?_ | refine block_ ?_ | refine cond_t rfl ?_ | refine guard_t rfl rfl rfl ?_ | refine stepY (y_move rfl) rfl ?_ | refine stepY (y_assign rfl) rfl ?_ | refine stepY (y_load_rc1 rfl rfl) rfl ?_ | refine stepY (y_pick_t rfl rfl) rfl ?_ | refine stepY (y_index_si rfl rfl (by omega) (by omega)) rfl ?_ | refine stepY (y_binn rfl rfl rfl (by simp only [InK, loK, hiK]; omega)) rfl ?_ | refine stepY (y_cmpT rfl rfl rfl (by omega)) rfl ?_ | refine stepY (y_cmpT rfl rfl rfl (by omega)) rfl ?_)
      obtain ⟨j, rfl⟩ : ∃ j, k = j + 1 := ⟨k - 1, by omega⟩
      refine ⟨j, ⟨by omega, ?_⟩, Nat.lt_succ_self j, ?_, ?_⟩
      · rw [← hv, List.take_add_one, val_append, List.getElem?_eq_getElem (by omega)]
        unfold rd at h1
        rw [show (((j + 1 : Nat) : Int) - 1).toNat = j by omega, List.getD_eq_getElem?_getD, List.getElem?_eq_getElem (by omega)] at h1
        simp only [Option.getD_some] at h1
        simp [h1, val]
      · (repeat (first | exact sub_nil | refine sub_cons rfl ?_ | refine sub_conse rfl (by (congr 3; omega)) ?_))
      · (repeat (exact subH_nil))
    · rw [hfin (.inr h1)]
      repeat (first | refine seq_ ?_ | refine region_ ?_ | refine nil_ ?_ | refine exit_ ?_ | refine ret_ ?_ | refine cond_f rfl ?_ | refine guard_t rfl rfl rfl ?_ | refine stepY (y_move rfl) rfl ?_ | refine stepY (y_assign rfl) rfl ?_ | refine stepY (y_load_rc1 rfl rfl) rfl ?_ | refine stepY (y_pick_t rfl rfl) rfl ?_ | refine stepY (y_index_si rfl rfl (by omega) (by omega)) rfl ?_ | refine stepY (y_slice_si_h rfl rfl (by omega) (by omega)) rfl ?_ | refine stepY (y_binn rfl rfl rfl (by simp only [InK, loK, hiK]; omega)) rfl ?_ | refine stepY (y_cmpF rfl rfl rfl (by omega)) rfl ?_ | refine stepY (y_cmpT rfl rfl rfl (by omega)) rfl ?_)
      rw [Int.toNat_natCast]
      ((apply fin_r); (repeat (first | exact .nil | exact .tmp rfl | apply ResL.cons)); (repeat (exact .refl _)))
  · rw [hfin (.inl (by omega))]
    repeat (first | refine seq_ ?_ | refine region_ ?_ | refine nil_ ?_ | refine exit_ ?_ | refine ret_ ?_ | refine cond_f rfl ?_ | refine guard_f rfl rfl rfl rfl ?_ | refine stepY (y_move rfl) rfl ?_ | refine stepY (y_assign rfl) rfl ?_ | refine stepY (y_pick_f rfl rfl) rfl ?_ | refine stepY (y_slice_si_h rfl rfl (by omega) (by omega)) rfl ?_ | refine stepY (y_cmpF rfl rfl rfl (by omega)) rfl ?_)
    rw [Int.toNat_natCast]
    ((apply fin_r); (repeat (first | exact .nil | exact .tmp rfl | apply ResL.cons)); (repeat (exact .refl _)))
theorem compare3_c (a b : Nat) : Con Try.prog 72 [M a, M b] (I (sg a b)) := by
  refine con_of Try.func72 rfl rfl rfl rfl rfl ?_
  refine len_C (i := 0) rfl (fun hL => ?_)
  refine len_C (i := 1) rfl (fun hL' => ?_)
  have la : ((limbs a).length : Int) = ln a := by rw [limbs_length]
  have lb : ((limbs b).length : Int) = ln b := by rw [limbs_length]
  rw [limbs_length] at hL hL'
  by_cases hlt : ln a < ln b
  · rw [sg_lt (ln_lt hlt)]
    repeat (first | refine seq_ ?_ | refine region_ ?_ | refine nil_ ?_ | refine ret_ ?_ | refine cond_t rfl ?_ | refine stepY (y_move rfl) rfl ?_ | refine stepY (y_assign rfl) rfl ?_ | refine stepY (y_len_si rfl) rfl ?_ | refine stepY (y_cmpT rfl rfl rfl (by omega)) rfl ?_)
    ((apply fin_r); (repeat (first | exact .nil | exact .tmp rfl | apply ResL.cons)); (repeat (exact .refl _)))
  by_cases hgt : ln b < ln a
  · rw [sg_gt (ln_lt hgt)]
    repeat (first | refine seq_ ?_ | refine region_ ?_ | refine nil_ ?_ | refine skip_ ?_ | refine ret_ ?_ | refine cond_t rfl ?_ | refine cond_f rfl ?_ | refine stepY (y_move rfl) rfl ?_ | refine stepY (y_assign rfl) rfl ?_ | refine stepY (y_len_si rfl) rfl ?_ | refine stepY (y_cmpF rfl rfl rfl (by omega)) rfl ?_ | refine stepY (y_cmpT rfl rfl rfl (by omega)) rfl ?_)
    ((apply fin_r); (repeat (first | exact .nil | exact .tmp rfl | apply ResL.cons)); (repeat (exact .refl _)))
  repeat (first | refine seq_ ?_ | refine region_ ?_ | refine nil_ ?_ | refine skip_ ?_ | refine block_ ?_ | refine cond_f rfl ?_ | refine stepY (y_move rfl) rfl ?_ | refine stepY (y_assign rfl) rfl ?_ | refine stepY (y_len_si rfl) rfl ?_ | refine stepY (y_binn rfl rfl rfl (by simp only [InK, loK, hiK]; omega)) rfl ?_ | refine stepY (y_cmpF rfl rfl rfl (by omega)) rfl ?_ | refine stepY (y_cmpF rfl rfl rfl (by omega)) rfl ?_)
  refine loop_ (α := Nat) (fun k => ([(0, .p (M a)), (1, .p (M b)), (5, .p (I ((k : Int) - 1)))], [])) (fun k => k ≤ ln a ∧ a / B ^ k = b / B ^ k) id (ln a) ⟨Nat.le_refl _, ?_⟩ ?_ ?_ ?_
  · rw [Nat.div_eq_of_lt (lt_ln a), Nat.div_eq_of_lt (by have := lt_ln b; rwa [show ln b = ln a by omega] at this)]
  · rw [la]; (repeat (first | exact sub_nil | refine sub_cons rfl ?_))
  · (repeat (exact subH_nil))
  intro k ⟨hk, he⟩
  by_cases h0 : k = 0
  · subst h0
    have hab : a = b := by simpa using he
    subst hab
    repeat (first | refine seq_ ?_ | refine region_ ?_ | refine nil_ ?_ | refine exit_ ?_ | refine ret_ ?_ | refine cond_f rfl ?_ | refine stepY (y_move rfl) rfl ?_ | refine stepY (y_assign rfl) rfl ?_ | refine stepY (y_cmpF rfl rfl rfl (by omega)) rfl ?_)
    rw [sg_eq]
    ((apply fin_r); (repeat (first | exact .nil | exact .tmp rfl | apply ResL.cons)); (repeat (exact .refl _)))
  · obtain ⟨j, rfl⟩ : ∃ j, k = j + 1 := ⟨k - 1, by omega⟩
    rw [show (((j + 1 : Nat) : Int) - 1) = (j : Int) by omega]
    have ra : rd (limbs a) (j : Int) = ((dg a j : Nat) : Int) := rd_limbs a (by omega)
    have rb : rd (limbs b) (j : Int) = ((dg b j : Nat) : Int) := rd_limbs b (by omega)
    by_cases h1 : dg a j = dg b j
    · repeat (first | refine seq_ ?_ | refine region_ ?_ | refine nil_ ?_ | refine skip_ ?_ | refine block_ ?_ | refine cond_t rfl ?_ | refine stepY (y_move rfl) rfl ?_ | refine stepY (y_cmpT rfl rfl rfl (by omega)) rfl ?_)
      refine draw_ [(0, true), (1, true), (2, true), (3, true), (4, true), (5, true), (6, true), (7, true), (8, true)] 1000 [] mixed (by kernel_rfl) rfl ?_
      ((refine dY rfl (y_move rfl) rfl rfl rfl rfl ?_); refine dY rfl (y_move rfl) rfl rfl rfl rfl ?_; refine dY rfl (y_index_si rfl rfl (by omega) (by omega)) rfl rfl rfl rfl ?_; refine dY rfl (y_load_rc1 rfl rfl) rfl rfl rfl rfl ?_; refine dY rfl (y_move rfl) rfl rfl rfl rfl ?_; refine dY rfl (y_move rfl) rfl rfl rfl rfl ?_; refine dY rfl (y_index_si rfl rfl (by omega) (by omega)) rfl rfl rfl rfl ?_; refine dY rfl (y_load_rc1 rfl rfl) rfl rfl rfl rfl ?_; refine dY rfl (y_cmpF rfl rfl rfl (by omega)) rfl rfl rfl rfl ?_; refine dEnd ?_)
      repeat (first | refine seq_ ?_ | refine skip_ ?_ | refine cond_f rfl ?_)
      refine draw_ [(0, true), (1, true), (2, true), (3, true), (4, true), (5, true), (6, true), (7, true), (8, true)] 1000 [] mixed (by kernel_rfl) rfl ?_
      ((refine dY rfl (y_move rfl) rfl rfl rfl rfl ?_); refine dY rfl (y_move rfl) rfl rfl rfl rfl ?_; refine dY rfl (y_index_si rfl rfl (by omega) (by omega)) rfl rfl rfl rfl ?_; refine dY rfl (y_load_rc1 rfl rfl) rfl rfl rfl rfl ?_; refine dY rfl (y_move rfl) rfl rfl rfl rfl ?_; refine dY rfl (y_move rfl) rfl rfl rfl rfl ?_; refine dY rfl (y_index_si rfl rfl (by omega) (by omega)) rfl rfl rfl rfl ?_; refine dY rfl (y_load_rc1 rfl rfl) rfl rfl rfl rfl ?_; refine dY rfl (y_cmpF rfl rfl rfl (by omega)) rfl rfl rfl rfl ?_; refine dEnd ?_)
      repeat (first | refine region_ ?_ | refine nil_ ?_ | refine skip_ ?_ | refine cond_f rfl ?_ | refine stepY (y_move rfl) rfl ?_ | refine stepY (y_assign rfl) rfl ?_ | refine stepY (y_binn rfl rfl rfl (by simp only [InK, loK, hiK]; omega)) rfl ?_)
      refine ⟨j, ⟨by omega, ?_⟩, by simp only [id]; omega, ?_, ?_⟩
      · rw [div_split, div_split b, he, h1]
      · (repeat (first | exact sub_nil | refine sub_cons rfl ?_))
      · (repeat (exact subH_nil))
    · by_cases h2 : dg a j < dg b j
      · rw [sg_lt (top_lt he h2)]
        repeat (first | refine seq_ ?_ | refine region_ ?_ | refine nil_ ?_ | refine skip_ ?_ | refine block_ ?_ | refine cond_t rfl ?_ | refine stepY (y_move rfl) rfl ?_ | refine stepY (y_cmpT rfl rfl rfl (by omega)) rfl ?_)
        refine draw_ [(0, true), (1, true), (2, true), (3, true), (4, true), (5, true), (6, true), (7, true), (8, true)] 1000 [] mixed (by kernel_rfl) rfl ?_
        ((refine dY rfl (y_move rfl) rfl rfl rfl rfl ?_); refine dY rfl (y_move rfl) rfl rfl rfl rfl ?_; refine dY rfl (y_index_si rfl rfl (by omega) (by omega)) rfl rfl rfl rfl ?_; refine dY rfl (y_load_rc1 rfl rfl) rfl rfl rfl rfl ?_; refine dY rfl (y_move rfl) rfl rfl rfl rfl ?_; refine dY rfl (y_move rfl) rfl rfl rfl rfl ?_; refine dY rfl (y_index_si rfl rfl (by omega) (by omega)) rfl rfl rfl rfl ?_; refine dY rfl (y_load_rc1 rfl rfl) rfl rfl rfl rfl ?_; refine dY rfl (y_cmpT rfl rfl rfl (by omega)) rfl rfl rfl rfl ?_; refine dEnd ?_)
        repeat (first | refine seq_ ?_ | refine region_ ?_ | refine nil_ ?_ | refine ret_ ?_ | refine cond_t rfl ?_ | refine stepY (y_assign rfl) rfl ?_)
        ((apply fin_r); (repeat (first | exact .nil | exact .tmp rfl | apply ResL.cons)); (repeat (exact .refl _)))
      · rw [sg_gt (top_lt he.symm (by omega))]
        repeat (first | refine seq_ ?_ | refine region_ ?_ | refine nil_ ?_ | refine skip_ ?_ | refine block_ ?_ | refine cond_t rfl ?_ | refine stepY (y_move rfl) rfl ?_ | refine stepY (y_cmpT rfl rfl rfl (by omega)) rfl ?_)
        refine draw_ [(0, true), (1, true), (2, true), (3, true), (4, true), (5, true), (6, true), (7, true), (8, true)] 1000 [] mixed (by kernel_rfl) rfl ?_
        ((refine dY rfl (y_move rfl) rfl rfl rfl rfl ?_); refine dY rfl (y_move rfl) rfl rfl rfl rfl ?_; refine dY rfl (y_index_si rfl rfl (by omega) (by omega)) rfl rfl rfl rfl ?_; refine dY rfl (y_load_rc1 rfl rfl) rfl rfl rfl rfl ?_; refine dY rfl (y_move rfl) rfl rfl rfl rfl ?_; refine dY rfl (y_move rfl) rfl rfl rfl rfl ?_; refine dY rfl (y_index_si rfl rfl (by omega) (by omega)) rfl rfl rfl rfl ?_; refine dY rfl (y_load_rc1 rfl rfl) rfl rfl rfl rfl ?_; refine dY rfl (y_cmpF rfl rfl rfl (by omega)) rfl rfl rfl rfl ?_; refine dEnd ?_)
        repeat (first | refine seq_ ?_ | refine skip_ ?_ | refine cond_f rfl ?_)
        refine draw_ [(0, true), (1, true), (2, true), (3, true), (4, true), (5, true), (6, true), (7, true), (8, true)] 1000 [] mixed (by kernel_rfl) rfl ?_
        ((refine dY rfl (y_move rfl) rfl rfl rfl rfl ?_); refine dY rfl (y_move rfl) rfl rfl rfl rfl ?_; refine dY rfl (y_index_si rfl rfl (by omega) (by omega)) rfl rfl rfl rfl ?_; refine dY rfl (y_load_rc1 rfl rfl) rfl rfl rfl rfl ?_; refine dY rfl (y_move rfl) rfl rfl rfl rfl ?_; refine dY rfl (y_move rfl) rfl rfl rfl rfl ?_; refine dY rfl (y_index_si rfl rfl (by omega) (by omega)) rfl rfl rfl rfl ?_; refine dY rfl (y_load_rc1 rfl rfl) rfl rfl rfl rfl ?_; refine dY rfl (y_cmpT rfl rfl rfl (by omega)) rfl rfl rfl rfl ?_; refine dEnd ?_)
        repeat (first | refine seq_ ?_ | refine region_ ?_ | refine nil_ ?_ | refine ret_ ?_ | refine cond_t rfl ?_ | refine stepY (y_assign rfl) rfl ?_)
        ((apply fin_r); (repeat (first | exact .nil | exact .tmp rfl | apply ResL.cons)); (repeat (exact .refl _)))
theorem even3_c (n : Nat) : Con Try.prog 102 [M n] (Bo (decide (n % 2 = 0))) := by
  refine con_of Try.func102 rfl rfl rfl rfl rfl ?_
  refine len_C (i := 0) rfl (fun hL => ?_)
  have la : ((limbs n).length : Int) = ln n := by rw [limbs_length]
  by_cases h0 : n = 0
  · subst h0
    have : ln 0 = 0 := rfl
    rw [decide_eq_true (by omega)]
    repeat (first | refine seq_ ?_ | refine region_ ?_ | refine nil_ ?_ | refine ret_ ?_ | refine guard_f rfl rfl rfl rfl ?_ | refine stepY (y_move rfl) rfl ?_ | refine stepY (y_assign rfl) rfl ?_ | refine stepY (y_len_si rfl) rfl ?_ | refine stepY (y_pick_t rfl rfl) rfl ?_ | refine stepY (y_cmpT rfl rfl rfl (by omega)) rfl ?_)
    ((apply fin_r); (repeat (first | exact .nil | exact .tmp rfl | apply ResL.cons)); (repeat (exact .refl _)))
  · have h1 := ln_pos.2 (Nat.pos_of_ne_zero h0)
    have r0 : rd (limbs n) 0 = ((dg n 0 : Nat) : Int) := rd_limbs n (by omega)
    have hd : dg n 0 % 2 = n % 2 := by unfold dg; rw [Nat.pow_zero, Nat.div_one]; unfold B; omega
    by_cases he : n % 2 = 0
    · rw [decide_eq_true he]
      repeat (first | refine seq_ ?_ | refine region_ ?_ | refine nil_ ?_ | refine ret_ ?_ | refine guard_t rfl rfl rfl ?_ | refine stepY (y_move rfl) rfl ?_ | refine stepY (y_assign rfl) rfl ?_ | refine stepY (y_load_rc1 rfl rfl) rfl ?_ | refine stepY (y_len_si rfl) rfl ?_ | refine stepY (y_pick_f rfl rfl) rfl ?_ | refine stepY (y_index_si rfl rfl (by omega) (by omega)) rfl ?_ | refine stepY (y_remp rfl rfl (by omega) (by omega)) rfl ?_ | (first | refine stepY (y_cmpT rfl rfl rfl (by omega)) rfl ?_ | refine stepY (y_cmpF rfl rfl rfl (by omega)) rfl ?_))
      ((apply fin_r); (repeat (first | exact .nil | exact .tmp rfl | apply ResL.cons)); (repeat (exact .refl _)))
    · rw [decide_eq_false he]
      repeat (first | refine seq_ ?_ | refine region_ ?_ | refine nil_ ?_ | refine ret_ ?_ | refine guard_t rfl rfl rfl ?_ | refine stepY (y_move rfl) rfl ?_ | refine stepY (y_assign rfl) rfl ?_ | refine stepY (y_load_rc1 rfl rfl) rfl ?_ | refine stepY (y_len_si rfl) rfl ?_ | refine stepY (y_pick_f rfl rfl) rfl ?_ | refine stepY (y_index_si rfl rfl (by omega) (by omega)) rfl ?_ | refine stepY (y_remp rfl rfl (by omega) (by omega)) rfl ?_ | refine stepY (y_cmpF rfl rfl rfl (by omega)) rfl ?_)
      ((apply fin_r); (repeat (first | exact .nil | exact .tmp rfl | apply ResL.cons)); (repeat (exact .refl _)))
theorem minus3_c (a b : Nat) (hla : ln a < 4294967290) (hab : b ≤ a) : Con Try.prog 104 [M a, M b] (M (a - b)) := by
  refine con_of Try.func104 rfl rfl rfl rfl rfl ?_
  have la : ((limbs a).length : Int) = ln a := by rw [limbs_length]
  have lb : ((limbs b).length : Int) = ln b := by rw [limbs_length]
  repeat (first | refine seq_ ?_ | refine region_ ?_ | refine nil_ ?_ | refine block_ ?_ | refine stepY (y_assign rfl) rfl ?_)
  refine nil_C (i := 5) 95 .u32 rfl rfl rfl ?_
  refine loop_ (α := Nat) (fun k => ([(0, .p (M a)), (1, .p (M b)), (5, .vec 5), (6, .p (UU (bw a b k))), (7, .p (I k))], [(5, .vi 95 .u32 (padd k (a - b)))])) (fun k => k ≤ ln a) (fun k => ln a - k) 0 (Nat.zero_le _) ?_ ?_ ?_
  · rw [bw_zero]; (repeat (first | exact sub_nil | refine sub_cons rfl ?_))
  · (repeat (first | exact subH_nil | refine subH_cons rfl ?_))
  intro k hk
  have hlp : (padd k (a - b)).length = k := padd_length _ _
  by_cases hlt : k < ln a
  · have ra : rd (limbs a) (k : Int) = ((dg a k : Nat) : Int) := rd_limbs a (by omega)
    have rb : rd (limbs b) (k : Int) = ((dg b k : Nat) : Int) := rd_limbs b (by omega)
    have ba := dg_bd a k
    have bb := dg_bd b k
    have bd := dg_bd (a - b) k
    have hst := bw_step hab k
    have h1 := bw_le a b k
    have h2 := bw_le a b (k + 1)
    by_cases hkb : k < ln b
    · by_cases hlo : dg a k < dg b k + bw a b k
      · have hb1 : bw a b (k + 1) = 1 := by omega
        repeat (first | refine seq_ ?_ | refine region_ ?_ | refine nil_ ?_ | refine skip_ ?_ | refine block_ ?_ | refine cond_t rfl ?_ | refine stepY (y_move rfl) rfl ?_ | refine stepY (y_assign rfl) rfl ?_ | refine stepY (y_load_rc1 rfl rfl) rfl ?_ | refine stepY (y_len_si rfl) rfl ?_ | refine stepY (y_convn rfl (by simp only [InK, loK, hiK]; omega)) rfl ?_ | refine stepY (y_index_si rfl rfl (by omega) (by omega)) rfl ?_ | refine stepY (y_binn rfl rfl rfl (by simp only [InK, loK, hiK]; omega)) rfl ?_ | refine stepY (y_binn rfl rfl rfl (by simp only [InK, loK, hiK]; omega)) rfl ?_ | refine stepY (y_cmpT rfl rfl rfl (by omega)) rfl ?_ | refine stepE (e_bs_vi (k := .u32) rfl rfl rfl rfl rfl) ?_)
        rw [show rd (limbs a) (k : Int) + 4294967296 - ((bw a b k : Int) + rd (limbs b) (k : Int)) = ((dg (a - b) k : Nat) : Int) by omega]
        refine stepE (e_app_vi rfl rfl rfl (src_vi rfl rfl) (by simp only [List.length_cons, List.length_nil]; omega) rfl rfl) ?_
        repeat (first | refine region_ ?_ | refine nil_ ?_ | refine stepY (y_move rfl) rfl ?_ | refine stepY (y_assign rfl) rfl ?_ | refine stepY (y_binn rfl rfl rfl (by simp only [InK, loK, hiK]; omega)) rfl ?_)
        rw [← padd_succ]
        refine ⟨k + 1, by omega, by omega, ?_, ?_⟩
        · rw [hb1]; (repeat (first | exact sub_nil | refine sub_cons rfl ?_))
        · (repeat (first | exact subH_nil | refine subH_cons rfl ?_))
      · have hb1 : bw a b (k + 1) = 0 := by omega
        repeat (first | refine seq_ ?_ | refine region_ ?_ | refine nil_ ?_ | refine skip_ ?_ | refine block_ ?_ | refine cond_t rfl ?_ | refine cond_f rfl ?_ | refine stepY (y_move rfl) rfl ?_ | refine stepY (y_assign rfl) rfl ?_ | refine stepY (y_load_rc1 rfl rfl) rfl ?_ | refine stepY (y_len_si rfl) rfl ?_ | refine stepY (y_convn rfl (by simp only [InK, loK, hiK]; omega)) rfl ?_ | refine stepY (y_index_si rfl rfl (by omega) (by omega)) rfl ?_ | refine stepY (y_binn rfl rfl rfl (by simp only [InK, loK, hiK]; omega)) rfl ?_ | refine stepY (y_binn rfl rfl rfl (by simp only [InK, loK, hiK]; omega)) rfl ?_ | (first | refine stepY (y_cmpT rfl rfl rfl (by omega)) rfl ?_ | refine stepY (y_cmpF rfl rfl rfl (by omega)) rfl ?_) | refine stepE (e_bs_vi (k := .u32) rfl rfl rfl rfl rfl) ?_)
        rw [show rd (limbs a) (k : Int) - ((bw a b k : Int) + rd (limbs b) (k : Int)) = ((dg (a - b) k : Nat) : Int) by omega]
        refine stepE (e_app_vi rfl rfl rfl (src_vi rfl rfl) (by simp only [List.length_cons, List.length_nil]; omega) rfl rfl) ?_
        repeat (first | refine region_ ?_ | refine nil_ ?_ | refine stepY (y_move rfl) rfl ?_ | refine stepY (y_assign rfl) rfl ?_ | refine stepY (y_binn rfl rfl rfl (by simp only [InK, loK, hiK]; omega)) rfl ?_)
        rw [← padd_succ]
        refine ⟨k + 1, by omega, by omega, ?_, ?_⟩
        · rw [hb1]; (repeat (first | exact sub_nil | refine sub_cons rfl ?_))
        · (repeat (first | exact subH_nil | refine subH_cons rfl ?_))
    · have hz : dg b k = 0 := dg_big (by omega)
      by_cases hlo : dg a k < bw a b k
      · have hb1 : bw a b (k + 1) = 1 := by omega
        repeat (first | refine seq_ ?_ | refine region_ ?_ | refine nil_ ?_ | refine skip_ ?_ | refine block_ ?_ | refine cond_t rfl ?_ | refine cond_f rfl ?_ | refine stepY (y_move rfl) rfl ?_ | refine stepY (y_assign rfl) rfl ?_ | refine stepY (y_load_rc1 rfl rfl) rfl ?_ | refine stepY (y_len_si rfl) rfl ?_ | refine stepY (y_convn rfl (by simp only [InK, loK, hiK]; omega)) rfl ?_ | refine stepY (y_index_si rfl rfl (by omega) (by omega)) rfl ?_ | refine stepY (y_binn rfl rfl rfl (by simp only [InK, loK, hiK]; omega)) rfl ?_ | refine stepY (y_binn rfl rfl rfl (by simp only [InK, loK, hiK]; omega)) rfl ?_ | (first | refine stepY (y_cmpT rfl rfl rfl (by omega)) rfl ?_ | refine stepY (y_cmpF rfl rfl rfl (by omega)) rfl ?_) | refine stepE (e_bs_vi (k := .u32) rfl rfl rfl rfl rfl) ?_)
        rw [show rd (limbs a) (k : Int) + 4294967296 - (bw a b k : Int) = ((dg (a - b) k : Nat) : Int) by omega]
        refine stepE (e_app_vi rfl rfl rfl (src_vi rfl rfl) (by simp only [List.length_cons, List.length_nil]; omega) rfl rfl) ?_
        repeat (first | refine region_ ?_ | refine nil_ ?_ | refine stepY (y_move rfl) rfl ?_ | refine stepY (y_assign rfl) rfl ?_ | refine stepY (y_binn rfl rfl rfl (by simp only [InK, loK, hiK]; omega)) rfl ?_)
        rw [← padd_succ]
        refine ⟨k + 1, by omega, by omega, ?_, ?_⟩
        · rw [hb1]; (repeat (first | exact sub_nil | refine sub_cons rfl ?_))
        · (repeat (first | exact subH_nil | refine subH_cons rfl ?_))
      · have hb1 : bw a b (k + 1) = 0 := by omega
        repeat (first | refine seq_ ?_ | refine region_ ?_ | refine nil_ ?_ | refine skip_ ?_ | refine block_ ?_ | refine cond_t rfl ?_ | refine cond_f rfl ?_ | refine stepY (y_move rfl) rfl ?_ | refine stepY (y_assign rfl) rfl ?_ | refine stepY (y_load_rc1 rfl rfl) rfl ?_ | refine stepY (y_len_si rfl) rfl ?_ | refine stepY (y_convn rfl (by simp only [InK, loK, hiK]; omega)) rfl ?_ | refine stepY (y_index_si rfl rfl (by omega) (by omega)) rfl ?_ | refine stepY (y_binn rfl rfl rfl (by simp only [InK, loK, hiK]; omega)) rfl ?_ | (first | refine stepY (y_cmpT rfl rfl rfl (by omega)) rfl ?_ | refine stepY (y_cmpF rfl rfl rfl (by omega)) rfl ?_) | refine stepE (e_bs_vi (k := .u32) rfl rfl rfl rfl rfl) ?_)
        rw [show rd (limbs a) (k : Int) - (bw a b k : Int) = ((dg (a - b) k : Nat) : Int) by omega]
        refine stepE (e_app_vi rfl rfl rfl (src_vi rfl rfl) (by simp only [List.length_cons, List.length_nil]; omega) rfl rfl) ?_
        repeat (first | refine region_ ?_ | refine nil_ ?_ | refine stepY (y_move rfl) rfl ?_ | refine stepY (y_assign rfl) rfl ?_ | refine stepY (y_binn rfl rfl rfl (by simp only [InK, loK, hiK]; omega)) rfl ?_)
        rw [← padd_succ]
        refine ⟨k + 1, by omega, by omega, ?_, ?_⟩
        · rw [hb1]; (repeat (first | exact sub_nil | refine sub_cons rfl ?_))
        · (repeat (first | exact subH_nil | refine subH_cons rfl ?_))
  · obtain rfl : k = ln a := by omega
    have ht := trim3_c (padd (ln a) (a - b)) (wf_padd _ _) (by rw [padd_length]; omega)
    rw [val_padd, Nat.mod_eq_of_lt (Nat.lt_of_le_of_lt (Nat.sub_le _ _) (lt_ln a))] at ht
    repeat (first | refine seq_ ?_ | refine region_ ?_ | refine nil_ ?_ | refine exit_ ?_ | refine cond_f rfl ?_ | refine stepY (y_move rfl) rfl ?_ | refine stepY (y_len_si rfl) rfl ?_ | refine stepY (y_cmpF rfl rfl rfl (by omega)) rfl ?_)
    refine seal_L (i := 45) (h := 5) rfl rfl rfl rfl ?_
    refine call_ Try.func87 rfl rfl ht rfl (by repeat (first | exact .tag _ _ | apply Les.cons | exact .nil)) rfl ?_
    repeat (first | refine nil_ ?_ | refine ret_ ?_ | refine stepY (y_assign rfl) rfl ?_)
    ((apply fin_r); (repeat (first | exact .nil | exact .tmp rfl | apply ResL.cons)); (repeat (exact .refl _)))
end Go.Av

set_option maxHeartbeats 8000000
set_option exponentiation.threshold 100000
set_option maxRecDepth 100000
set_option linter.unusedVariables false
set_option linter.unusedSimpArgs false
namespace Go.Av
open Go Go.Proofs
/-! The reference of the fractions: shift, halve, plus, times -/
theorem shift3_c (n c : Nat) (hl : ln n < 4294967290) (hc : c ≤ 1) : Con Try.prog 105 [M n, U c] (M (n * 2 + c)) := by
  refine con_of Try.func105 rfl rfl rfl rfl rfl ?_
  have la : ((limbs n).length : Int) = ln n := by rw [limbs_length]
  repeat (first | refine seq_ ?_ | refine region_ ?_ | refine nil_ ?_ | refine block_ ?_ | (apply stepY (op := .assign _); (focus (exact y_assign rfl)); (focus exact rfl)))
  refine nil_C (i := 5) 95 .u32 rfl rfl rfl ?_
  refine loop_ (α := Nat) (fun k => ([(0, .p (M n)), (1, .p (U (lc n 2 c k))), (5, .vec 5), (6, .p (I k))], [(5, .vi 95 .u32 (padd k (n * 2 + c)))])) (fun k => k ≤ ln n) (fun k => ln n - k) 0 (Nat.zero_le _) ?_ ?_ ?_
  · rw [lc_zero]; (repeat (first | exact sub_nil | refine sub_cons rfl ?_))
  · (repeat (first | exact subH_nil | refine subH_cons rfl ?_))
  intro k hk
  have hlp : (padd k (n * 2 + c)).length = k := padd_length _ _
  obtain ⟨s1, s2, s3⟩ := sh_step (n := n) (i := k) hc
  by_cases hlt : k < ln n
  · have ra : rd (limbs n) (k : Int) = ((dg n k : Nat) : Int) := rd_limbs n (by omega)
    have ba := dg_bd n k
    have bd := dg_bd (n * 2 + c) k
    have e1 : IntKind.wrap .u32 (rd (limbs n) (k : Int) * 2) = ((dg n k * 2 % 4294967296 : Nat) : Int) := by rw [wrap_u32, ra]; omega
    have e3 : rd (limbs n) (k : Int) / 2147483648 = ((lc n 2 c (k + 1) : Nat) : Int) := by rw [ra, ← s2]; omega
    repeat (first | refine seq_ ?_ | refine region_ ?_ | refine nil_ ?_ | refine skip_ ?_ | refine block_ ?_ | refine cond_t rfl ?_ | (apply stepY (op := .move _); (focus (exact y_move rfl)); (focus exact rfl)) | (apply stepY (op := .load _ _); (focus (exact y_load_rc1 rfl rfl)); (focus exact rfl)) | (apply stepY (op := .call _); (focus (exact y_len_si rfl)); (focus exact rfl)) | (apply stepY (op := .indexAddr _ _ _); (focus (exact y_index_si rfl rfl (by omega) (by omega))); (focus exact rfl)) | (apply stepY (op := .binOp .add _ _ _ _); (focus (exact y_binn rfl rfl rfl (by simp only [InK, loK, hiK]; omega))); (focus exact rfl)) | (apply stepY (op := .binOp .mul _ _ _ _); (focus (exact y_bin rfl rfl rfl)); (focus exact rfl)) | (apply stepY (op := .binOp .lss _ _ _ _); (focus (exact y_cmpT rfl rfl rfl (by omega))); (focus exact rfl)) | refine stepE (e_bs_vi (k := .u32) rfl rfl rfl rfl rfl) ?_)
    rw [e1, show ((dg n k * 2 % 4294967296 : Nat) : Int) + (lc n 2 c k : Int) = ((dg (n * 2 + c) k : Nat) : Int) by omega]
    refine stepE (e_app_vi rfl rfl rfl (src_vi rfl rfl) (by simp only [List.length_cons, List.length_nil]; omega) rfl rfl) ?_
    repeat (first | refine region_ ?_ | refine nil_ ?_ | (apply stepY (op := .move _); (focus (exact y_move rfl)); (focus exact rfl)) | (apply stepY (op := .assign _); (focus (exact y_assign rfl)); (focus exact rfl)) | (apply stepY (op := .load _ _); (focus (exact y_load_rc1 rfl rfl)); (focus exact rfl)) | (apply stepY (op := .indexAddr _ _ _); (focus (exact y_index_si rfl rfl (by omega) (by omega))); (focus exact rfl)) | (apply stepY (op := .binOp .add _ _ _ _); (focus (exact y_binn rfl rfl rfl (by simp only [InK, loK, hiK]; omega))); (focus exact rfl)) | (apply stepY (op := .binOp .quo _ _ _ _); (focus (exact y_quop rfl rfl (by omega) (by omega) (by simp only [InK, loK, hiK]; omega))); (focus exact rfl)))
    rw [← padd_succ, e3]
    refine ⟨k + 1, by omega, by omega, ?_, ?_⟩ <;> (repeat (first | exact sub_nil | exact subH_nil | refine sub_cons rfl ?_ | refine subH_cons rfl ?_))
  · obtain rfl : k = ln n := by omega
    have h1 := lc_top (n := n) (b := 2) (c := c) (lt_ln n) (by decide) (by unfold B; omega)
    have h2 := lc_fit (n := n) (b := 2) (c := c) (lt_ln n) (by decide) (by unfold B; omega)
    have ht := trim3_c (padd (ln n + 1) (n * 2 + c)) (wf_padd _ _) (by rw [padd_length]; omega)
    rw [val_padd, Nat.mod_eq_of_lt h2] at ht
    repeat (first | refine seq_ ?_ | refine region_ ?_ | refine nil_ ?_ | refine exit_ ?_ | refine cond_f rfl ?_ | (apply stepY (op := .move _); (focus (exact y_move rfl)); (focus exact rfl)) | (apply stepY (op := .call _); (focus (exact y_len_si rfl)); (focus exact rfl)) | (apply stepY (op := .binOp .lss _ _ _ _); (focus (exact y_cmpF rfl rfl rfl (by omega))); (focus exact rfl)) | refine stepE (e_bs_vi (k := .u32) rfl rfl rfl rfl rfl) ?_)
    refine stepE (e_app_vi rfl rfl rfl (src_vi rfl rfl) (by simp only [List.length_cons, List.length_nil]; omega) rfl rfl) ?_
    repeat (first | refine seq_ ?_ | refine region_ ?_ | refine nil_ ?_ | (apply stepY (op := .move _); (focus (exact y_move rfl)); (focus exact rfl)) | (apply stepY (op := .assign _); (focus (exact y_assign rfl)); (focus exact rfl)))
    rw [h1, ← padd_succ]
    refine seal_L (i := 32) (h := 5) rfl rfl rfl rfl ?_
    refine call_ Try.func87 rfl rfl (ht) rfl (by repeat (first | exact .tag _ _ | apply Les.cons | exact .nil)) rfl ?_
    repeat (first | refine nil_ ?_ | refine ret_ ?_ | (apply stepY (op := .assign _); (focus (exact y_assign rfl)); (focus exact rfl)))
    ((apply fin_r); (repeat (first | exact .nil | exact .tmp rfl | apply ResL.cons)); (repeat (exact .refl _)))
theorem dg_half (n k : Nat) : dg (n / 2) k = dg n k / 2 + dg n (k + 1) % 2 * 2147483648 := by
  unfold dg
  rw [Nat.pow_succ, ← Nat.div_div_eq_div_mul n (B ^ k) B, Nat.div_div_eq_div_mul, Nat.mul_comm, ← Nat.div_div_eq_div_mul]
  generalize n / B ^ k = q
  unfold B
  omega
theorem halve3_c (n : Nat) (hl : ln n < 4294967290) : Con Try.prog 103 [M n] (M (n / 2)) := by
  refine con_of Try.func103 rfl rfl rfl rfl rfl ?_
  have la : ((limbs n).length : Int) = ln n := by rw [limbs_length]
  repeat (first | refine seq_ ?_ | refine region_ ?_ | refine nil_ ?_ | refine block_ ?_ | (apply stepY (op := .assign _); (focus (exact y_assign rfl)); (focus exact rfl)))
  refine nil_C (i := 3) 95 .u32 rfl rfl rfl ?_
  refine loop_ (α := Nat) (fun k => ([(0, .p (M n)), (3, .vec 3), (4, .p (I k))], [(3, .vi 95 .u32 (padd k (n / 2)))])) (fun k => k ≤ ln n) (fun k => ln n - k) 0 (Nat.zero_le _) ?_ ?_ ?_
  · (repeat (first | exact sub_nil | refine sub_cons rfl ?_))
  · (repeat (first | exact subH_nil | refine subH_cons rfl ?_))
  intro k hk
  have hlp : (padd k (n / 2)).length = k := padd_length _ _
  have hd := dg_half n k
  by_cases hlt : k < ln n
  · have ra : rd (limbs n) (k : Int) = ((dg n k : Nat) : Int) := rd_limbs n (by omega)
    have ba := dg_bd n k
    by_cases h2 : k + 1 < ln n
    · have rb : rd (limbs n) ((k : Int) + 1) = ((dg n (k + 1) : Nat) : Int) := rd_limbs n (by omega)
      have bb := dg_bd n (k + 1)
      repeat (first | refine seq_ ?_ | refine region_ ?_ | refine nil_ ?_ | refine skip_ ?_ | refine block_ ?_ | refine cond_t rfl ?_ | (apply stepY (op := .move _); (focus (exact y_move rfl)); (focus exact rfl)) | (apply stepY (op := .assign _); (focus (exact y_assign rfl)); (focus exact rfl)) | (apply stepY (op := .load _ _); (focus (exact y_load_rc1 rfl rfl)); (focus exact rfl)) | (apply stepY (op := .call _); (focus (exact y_len_si rfl)); (focus exact rfl)) | (apply stepY (op := .indexAddr _ _ _); (focus (exact y_index_si rfl rfl (by omega) (by omega))); (focus exact rfl)) | (apply stepY (op := .binOp .add _ _ _ _); (focus (exact y_binn rfl rfl rfl (by simp only [InK, loK, hiK]; omega))); (focus exact rfl)) | (apply stepY (op := .binOp .mul _ _ _ _); (focus (exact y_binn rfl rfl rfl (by simp only [InK, loK, hiK]; omega))); (focus exact rfl)) | (apply stepY (op := .binOp .quo _ _ _ _); (focus (exact y_quop rfl rfl (by omega) (by omega) (by simp only [InK, loK, hiK]; omega))); (focus exact rfl)) | (apply stepY (op := .binOp .rem _ _ _ _); (focus (exact y_remp rfl rfl (by omega) (by omega))); (focus exact rfl)) | (apply stepY (op := .binOp .lss _ _ _ _); (focus (exact y_cmpT rfl rfl rfl (by omega))); (focus exact rfl)) | refine stepE (e_bs_vi (k := .u32) rfl rfl rfl rfl rfl) ?_)
      rw [show rd (limbs n) (k : Int) / 2 + rd (limbs n) ((k : Int) + 1) % 2 * 2147483648 = ((dg (n / 2) k : Nat) : Int) by omega]
      refine stepE (e_app_vi rfl rfl rfl (src_vi rfl rfl) (by simp only [List.length_cons, List.length_nil]; omega) rfl rfl) ?_
      repeat (first | refine region_ ?_ | refine nil_ ?_ | (apply stepY (op := .move _); (focus (exact y_move rfl)); (focus exact rfl)) | (apply stepY (op := .assign _); (focus (exact y_assign rfl)); (focus exact rfl)) | (apply stepY (op := .binOp .add _ _ _ _); (focus (exact y_binn rfl rfl rfl (by simp only [InK, loK, hiK]; omega))); (focus exact rfl)))
      rw [← padd_succ]
      refine ⟨k + 1, by omega, by omega, ?_, ?_⟩ <;> (repeat (first | exact sub_nil | exact subH_nil | refine sub_cons rfl ?_ | refine subH_cons rfl ?_))
    · have hz : dg n (k + 1) = 0 := dg_big (by omega)
      rw [hz] at hd
      repeat (first | refine seq_ ?_ | refine region_ ?_ | refine nil_ ?_ | refine skip_ ?_ | refine block_ ?_ | refine cond_t rfl ?_ | refine cond_f rfl ?_ | (apply stepY (op := .move _); (focus (exact y_move rfl)); (focus exact rfl)) | (apply stepY (op := .assign _); (focus (exact y_assign rfl)); (focus exact rfl)) | (apply stepY (op := .load _ _); (focus (exact y_load_rc1 rfl rfl)); (focus exact rfl)) | (apply stepY (op := .call _); (focus (exact y_len_si rfl)); (focus exact rfl)) | (apply stepY (op := .indexAddr _ _ _); (focus (exact y_index_si rfl rfl (by omega) (by omega))); (focus exact rfl)) | (apply stepY (op := .binOp .add _ _ _ _); (focus (exact y_binn rfl rfl rfl (by simp only [InK, loK, hiK]; omega))); (focus exact rfl)) | (apply stepY (op := .binOp .quo _ _ _ _); (focus (exact y_quop rfl rfl (by omega) (by omega) (by simp only [InK, loK, hiK]; omega))); (focus exact rfl)) | (apply stepY (op := .binOp .lss _ _ _ _); (focus (first | exact y_cmpT rfl rfl rfl (by omega) | exact y_cmpF rfl rfl rfl (by omega))); (focus exact rfl)) | refine stepE (e_bs_vi (k := .u32) rfl rfl rfl rfl rfl) ?_)
      rw [show rd (limbs n) (k : Int) / 2 = ((dg (n / 2) k : Nat) : Int) by omega]
      refine stepE (e_app_vi rfl rfl rfl (src_vi rfl rfl) (by simp only [List.length_cons, List.length_nil]; omega) rfl rfl) ?_
      repeat (first | refine region_ ?_ | refine nil_ ?_ | (apply stepY (op := .move _); (focus (exact y_move rfl)); (focus exact rfl)) | (apply stepY (op := .assign _); (focus (exact y_assign rfl)); (focus exact rfl)) | (apply stepY (op := .binOp .add _ _ _ _); (focus (exact y_binn rfl rfl rfl (by simp only [InK, loK, hiK]; omega))); (focus exact rfl)))
      rw [← padd_succ]
      refine ⟨k + 1, by omega, by omega, ?_, ?_⟩ <;> (repeat (first | exact sub_nil | exact subH_nil | refine sub_cons rfl ?_ | refine subH_cons rfl ?_))
  · obtain rfl : k = ln n := by omega
    have ht := trim3_c (padd (ln n) (n / 2)) (wf_padd _ _) (by rw [padd_length]; omega)
    rw [val_padd, Nat.mod_eq_of_lt (Nat.lt_of_le_of_lt (Nat.div_le_self _ _) (lt_ln n))] at ht
    repeat (first | refine seq_ ?_ | refine region_ ?_ | refine nil_ ?_ | refine exit_ ?_ | refine cond_f rfl ?_ | (apply stepY (op := .move _); (focus (exact y_move rfl)); (focus exact rfl)) | (apply stepY (op := .call _); (focus (exact y_len_si rfl)); (focus exact rfl)) | (apply stepY (op := .binOp .lss _ _ _ _); (focus (exact y_cmpF rfl rfl rfl (by omega))); (focus exact rfl)))
    refine seal_L (i := 35) (h := 3) rfl rfl rfl rfl ?_
    refine call_ Try.func87 rfl rfl (ht) rfl (by repeat (first | exact .tag _ _ | apply Les.cons | exact .nil)) rfl ?_
    repeat (first | refine nil_ ?_ | refine ret_ ?_ | (apply stepY (op := .assign _); (focus (exact y_assign rfl)); (focus exact rfl)))
    ((apply fin_r); (repeat (first | exact .nil | exact .tmp rfl | apply ResL.cons)); (repeat (exact .refl _)))
theorem plus3_c (a b : Nat) (hla : ln a < 4294967290) (hlb : ln b < 4294967290) : Con Try.prog 106 [M a, M b] (M (a + b)) := by
  refine con_of Try.func106 rfl rfl rfl rfl rfl ?_
  have la : ((limbs a).length : Int) = ln a := by rw [limbs_length]
  have lb : ((limbs b).length : Int) = ln b := by rw [limbs_length]
  repeat (first | refine seq_ ?_ | refine region_ ?_ | refine nil_ ?_ | refine block_ ?_ | (apply stepY (op := .assign _); (focus (exact y_assign rfl)); (focus exact rfl)))
  refine nil_C (i := 5) 95 .u32 rfl rfl rfl ?_
  refine loop_ (α := Nat) (fun k => ([(0, .p (M a)), (1, .p (M b)), (5, .vec 5), (6, .p (UU (cy a b k))), (7, .p (I k))], [(5, .vi 95 .u32 (padd k (a + b)))])) (fun k => k ≤ max (ln a) (ln b)) (fun k => max (ln a) (ln b) - k) 0 (Nat.zero_le _) ?_ ?_ ?_
  · rw [cy_zero]; (repeat (first | exact sub_nil | refine sub_cons rfl ?_))
  · (repeat (first | exact subH_nil | refine subH_cons rfl ?_))
  intro k hk
  have hl : (padd k (a + b)).length = k := padd_length _ _
  have hstep := cy_step a b k
  have h1 := dg_lt a k
  have h2 := dg_lt b k
  have h3 := cy_le a b k
  have h4 := dg_lt (a + b) k
  unfold B at hstep h1 h2 h4
  have ra : rd (limbs a) (k : Int) = ((dg a k : Nat) : Int) := rd_limbs a (by omega)
  have rb : rd (limbs b) (k : Int) = ((dg b k : Nat) : Int) := rd_limbs b (by omega)
  by_cases ha : k < ln a
  · by_cases hb : k < ln b
    · repeat (first | refine seq_ ?_ | refine region_ ?_ | refine nil_ ?_ | refine skip_ ?_ | refine block_ ?_ | refine cond_t rfl ?_ | refine guard_f rfl rfl rfl rfl ?_ | (apply stepY (op := .move _); (focus (exact y_move rfl)); (focus exact rfl)) | (apply stepY (op := .assign _); (focus (exact y_assign rfl)); (focus exact rfl)) | (apply stepY (op := .load _ _); (focus (exact y_load_rc1 rfl rfl)); (focus exact rfl)) | (apply stepY (op := .call _); (focus (exact y_len_si rfl)); (focus exact rfl)) | (apply stepY (op := .convert _ _ _); (focus (exact y_convn rfl (by simp only [InK, loK, hiK]; omega))); (focus exact rfl)) | (apply stepY (op := .pick _ _ _); (focus (exact y_pick_t rfl rfl)); (focus exact rfl)) | (apply stepY (op := .indexAddr _ _ _); (focus (exact y_index_si rfl rfl (by omega) (by omega))); (focus exact rfl)) | (apply stepY (op := .binOp .add _ _ _ _); (focus (exact y_binn rfl rfl rfl (by simp only [InK, loK, hiK]; omega))); (focus exact rfl)) | (apply stepY (op := .binOp .rem _ _ _ _); (focus (exact y_remp rfl rfl (by omega) (by omega))); (focus exact rfl)) | (apply stepY (op := .binOp .lss _ _ _ _); (focus (exact y_cmpT rfl rfl rfl (by omega))); (focus exact rfl)) | refine stepE (e_bs_vi (k := .u32) rfl rfl rfl rfl rfl) ?_)
      rw [show ((cy a b k : Int) + rd (limbs a) (k : Int) + rd (limbs b) (k : Int)) % 4294967296 = ((dg (a + b) k : Nat) : Int) by omega]
      refine stepE (e_app_vi rfl rfl rfl (src_vi rfl rfl) (by simp only [List.length_cons, List.length_nil]; omega) rfl rfl) ?_
      repeat (first | refine region_ ?_ | refine nil_ ?_ | (apply stepY (op := .move _); (focus (exact y_move rfl)); (focus exact rfl)) | (apply stepY (op := .assign _); (focus (exact y_assign rfl)); (focus exact rfl)) | (apply stepY (op := .binOp .add _ _ _ _); (focus (exact y_binn rfl rfl rfl (by simp only [InK, loK, hiK]; omega))); (focus exact rfl)) | (apply stepY (op := .binOp .quo _ _ _ _); (focus (exact y_quop rfl rfl (by omega) (by omega) (by simp only [InK, loK, hiK]; omega))); (focus exact rfl)))
      rw [← padd_succ, show ((cy a b k : Int) + rd (limbs a) (k : Int) + rd (limbs b) (k : Int)) / 4294967296 = cy a b (k + 1) by omega]
      refine ⟨k + 1, by omega, by omega, ?_, ?_⟩ <;> (repeat (first | exact sub_nil | exact subH_nil | refine sub_cons rfl ?_ | refine subH_cons rfl ?_))
    · have hz : dg b k = 0 := dg_big (by omega)
      repeat (first | refine seq_ ?_ | refine region_ ?_ | refine nil_ ?_ | refine skip_ ?_ | refine block_ ?_ | refine cond_t rfl ?_ | refine cond_f rfl ?_ | refine guard_f rfl rfl rfl rfl ?_ | (apply stepY (op := .move _); (focus (exact y_move rfl)); (focus exact rfl)) | (apply stepY (op := .assign _); (focus (exact y_assign rfl)); (focus exact rfl)) | (apply stepY (op := .load _ _); (focus (exact y_load_rc1 rfl rfl)); (focus exact rfl)) | (apply stepY (op := .call _); (focus (exact y_len_si rfl)); (focus exact rfl)) | (apply stepY (op := .convert _ _ _); (focus (exact y_convn rfl (by simp only [InK, loK, hiK]; omega))); (focus exact rfl)) | (apply stepY (op := .pick _ _ _); (focus (exact y_pick_t rfl rfl)); (focus exact rfl)) | (apply stepY (op := .indexAddr _ _ _); (focus (exact y_index_si rfl rfl (by omega) (by omega))); (focus exact rfl)) | (apply stepY (op := .binOp .add _ _ _ _); (focus (exact y_binn rfl rfl rfl (by simp only [InK, loK, hiK]; omega))); (focus exact rfl)) | (apply stepY (op := .binOp .rem _ _ _ _); (focus (exact y_remp rfl rfl (by omega) (by omega))); (focus exact rfl)) | (apply stepY (op := .binOp .lss _ _ _ _); (focus (first | exact y_cmpT rfl rfl rfl (by omega) | exact y_cmpF rfl rfl rfl (by omega))); (focus exact rfl)) | refine stepE (e_bs_vi (k := .u32) rfl rfl rfl rfl rfl) ?_)
      rw [show ((cy a b k : Int) + rd (limbs a) (k : Int)) % 4294967296 = ((dg (a + b) k : Nat) : Int) by omega]
      refine stepE (e_app_vi rfl rfl rfl (src_vi rfl rfl) (by simp only [List.length_cons, List.length_nil]; omega) rfl rfl) ?_
      repeat (first | refine region_ ?_ | refine nil_ ?_ | (apply stepY (op := .move _); (focus (exact y_move rfl)); (focus exact rfl)) | (apply stepY (op := .assign _); (focus (exact y_assign rfl)); (focus exact rfl)) | (apply stepY (op := .binOp .add _ _ _ _); (focus (exact y_binn rfl rfl rfl (by simp only [InK, loK, hiK]; omega))); (focus exact rfl)) | (apply stepY (op := .binOp .quo _ _ _ _); (focus (exact y_quop rfl rfl (by omega) (by omega) (by simp only [InK, loK, hiK]; omega))); (focus exact rfl)))
      rw [← padd_succ, show ((cy a b k : Int) + rd (limbs a) (k : Int)) / 4294967296 = cy a b (k + 1) by omega]
      refine ⟨k + 1, by omega, by omega, ?_, ?_⟩ <;> (repeat (first | exact sub_nil | exact subH_nil | refine sub_cons rfl ?_ | refine subH_cons rfl ?_))
  · have hz : dg a k = 0 := dg_big (by omega)
    by_cases hb : k < ln b
    · repeat (first | refine seq_ ?_ | refine region_ ?_ | refine nil_ ?_ | refine skip_ ?_ | refine block_ ?_ | refine cond_t rfl ?_ | refine cond_f rfl ?_ | refine guard_t rfl rfl rfl ?_ | (apply stepY (op := .move _); (focus (exact y_move rfl)); (focus exact rfl)) | (apply stepY (op := .assign _); (focus (exact y_assign rfl)); (focus exact rfl)) | (apply stepY (op := .load _ _); (focus (exact y_load_rc1 rfl rfl)); (focus exact rfl)) | (apply stepY (op := .call _); (focus (exact y_len_si rfl)); (focus exact rfl)) | (apply stepY (op := .convert _ _ _); (focus (exact y_convn rfl (by simp only [InK, loK, hiK]; omega))); (focus exact rfl)) | (apply stepY (op := .pick _ _ _); (focus (exact y_pick_f rfl rfl)); (focus exact rfl)) | (apply stepY (op := .indexAddr _ _ _); (focus (exact y_index_si rfl rfl (by omega) (by omega))); (focus exact rfl)) | (apply stepY (op := .binOp .add _ _ _ _); (focus (exact y_binn rfl rfl rfl (by simp only [InK, loK, hiK]; omega))); (focus exact rfl)) | (apply stepY (op := .binOp .rem _ _ _ _); (focus (exact y_remp rfl rfl (by omega) (by omega))); (focus exact rfl)) | (apply stepY (op := .binOp .lss _ _ _ _); (focus (first | exact y_cmpT rfl rfl rfl (by omega) | exact y_cmpF rfl rfl rfl (by omega))); (focus exact rfl)) | refine stepE (e_bs_vi (k := .u32) rfl rfl rfl rfl rfl) ?_)
      rw [show ((cy a b k : Int) + rd (limbs b) (k : Int)) % 4294967296 = ((dg (a + b) k : Nat) : Int) by omega]
      refine stepE (e_app_vi rfl rfl rfl (src_vi rfl rfl) (by simp only [List.length_cons, List.length_nil]; omega) rfl rfl) ?_
      repeat (first | refine region_ ?_ | refine nil_ ?_ | (apply stepY (op := .move _); (focus (exact y_move rfl)); (focus exact rfl)) | (apply stepY (op := .assign _); (focus (exact y_assign rfl)); (focus exact rfl)) | (apply stepY (op := .binOp .add _ _ _ _); (focus (exact y_binn rfl rfl rfl (by simp only [InK, loK, hiK]; omega))); (focus exact rfl)) | (apply stepY (op := .binOp .quo _ _ _ _); (focus (exact y_quop rfl rfl (by omega) (by omega) (by simp only [InK, loK, hiK]; omega))); (focus exact rfl)))
      rw [← padd_succ, show ((cy a b k : Int) + rd (limbs b) (k : Int)) / 4294967296 = cy a b (k + 1) by omega]
      refine ⟨k + 1, by omega, by omega, ?_, ?_⟩ <;> (repeat (first | exact sub_nil | exact subH_nil | refine sub_cons rfl ?_ | refine subH_cons rfl ?_))
    · obtain rfl : k = max (ln a) (ln b) := by omega
      have hva := ln_le.1 (Nat.le_max_left (ln a) (ln b))
      have hvb := ln_le.1 (Nat.le_max_right (ln a) (ln b))
      have ht := trim3_c (padd (max (ln a) (ln b) + 1) (a + b)) (wf_padd _ _) (by rw [padd_length]; omega)
      rw [val_padd, Nat.mod_eq_of_lt (sum_lt hva hvb)] at ht
      repeat (first | refine seq_ ?_ | refine region_ ?_ | refine nil_ ?_ | refine exit_ ?_ | refine cond_f rfl ?_ | refine guard_t rfl rfl rfl ?_ | (apply stepY (op := .move _); (focus (exact y_move rfl)); (focus exact rfl)) | (apply stepY (op := .call _); (focus (exact y_len_si rfl)); (focus exact rfl)) | (apply stepY (op := .convert _ _ _); (focus (exact y_convn rfl (by simp only [InK, loK, hiK]; omega))); (focus exact rfl)) | (apply stepY (op := .pick _ _ _); (focus (exact y_pick_f rfl rfl)); (focus exact rfl)) | (apply stepY (op := .binOp .lss _ _ _ _); (focus (exact y_cmpF rfl rfl rfl (by omega))); (focus exact rfl)) | refine stepE (e_bs_vi (k := .u32) rfl rfl rfl rfl rfl) ?_)
      refine stepE (e_app_vi rfl rfl rfl (src_vi rfl rfl) (by simp only [List.length_cons, List.length_nil]; omega) rfl rfl) ?_
      repeat (first | refine seq_ ?_ | refine region_ ?_ | refine nil_ ?_ | (apply stepY (op := .move _); (focus (exact y_move rfl)); (focus exact rfl)) | (apply stepY (op := .assign _); (focus (exact y_assign rfl)); (focus exact rfl)))
      rw [cy_top hva hvb, ← padd_succ]
      refine seal_L (i := 55) (h := 5) rfl rfl rfl rfl ?_
      refine call_ Try.func87 rfl rfl (ht) rfl (by repeat (first | exact .tag _ _ | apply Les.cons | exact .nil)) rfl ?_
      repeat (first | refine nil_ ?_ | refine ret_ ?_ | (apply stepY (op := .assign _); (focus (exact y_assign rfl)); (focus exact rfl)))
      ((apply fin_r); (repeat (first | exact .nil | exact .tmp rfl | apply ResL.cons)); (repeat (exact .refl _)))
end Go.Av

set_option maxHeartbeats 8000000
set_option exponentiation.threshold 100000
set_option maxRecDepth 100000
set_option linter.unusedVariables false
set_option linter.unusedSimpArgs false
namespace Go.Av
open Go Go.Proofs
/-! The reference of the fractions: divide -/
def xs (a i k : Nat) : Nat := a / B ^ (i + 1) * 2 ^ k + dg a i / 2 ^ (32 - k)
theorem xs_zero (a i : Nat) : xs a i 0 = a / B ^ (i + 1) := by
  have h := dg_lt a i
  unfold xs
  rw [Nat.pow_zero, Nat.mul_one, show dg a i / 2 ^ (32 - 0) = 0 from Nat.div_eq_of_lt (by unfold B at h; exact h), Nat.add_zero]
theorem xs_top (a i : Nat) : xs a i 32 = a / B ^ i := by
  unfold xs
  rw [show 32 - 32 = 0 from rfl, Nat.pow_zero, Nat.div_one, Nat.pow_succ, ← Nat.div_div_eq_div_mul]
  unfold dg
  have := Nat.div_add_mod (a / B ^ i) B
  rw [Nat.mul_comm] at this
  exact this
theorem xs_step (a i : Nat) {k : Nat} (h : k < 32) : xs a i (k + 1) = xs a i k * 2 + dg a i / 2 ^ (31 - k) % 2 := by
  unfold xs
  have e1 : (2 : Nat) ^ (32 - k) = 2 ^ (31 - k) * 2 := by rw [← Nat.pow_succ]; congr 1; omega
  rw [show 32 - (k + 1) = 31 - k by omega, e1, ← Nat.div_div_eq_div_mul, show (2 : Nat) ^ (k + 1) = 2 ^ k * 2 from Nat.pow_succ 2 k, ← Nat.mul_assoc]
  generalize dg a i / 2 ^ (31 - k) = q
  generalize a / B ^ (i + 1) * 2 ^ k = p
  omega
theorem xs_le (a i k : Nat) (h : k ≤ 32) : xs a i k ≤ a := by
  have key : ∀ m, k + m = 32 → xs a i k ≤ a := by
    intro m
    induction m generalizing k with
    | zero => intro e; rw [show k = 32 by omega, xs_top]; exact Nat.div_le_self _ _
    | succ m ih =>
      intro e
      have h1 := ih (k + 1) (by omega) (by omega)
      rw [xs_step a i (by omega)] at h1
      omega
  exact key (32 - k) (by omega)
theorem dstep {X b t : Nat} (hb : 0 < b) (ht : t ≤ 1) : (b ≤ X % b * 2 + t → (X * 2 + t) / b = X / b * 2 + 1 ∧ (X * 2 + t) % b = X % b * 2 + t - b) ∧ (¬ b ≤ X % b * 2 + t → (X * 2 + t) / b = X / b * 2 + 0 ∧ (X * 2 + t) % b = X % b * 2 + t) := by
  have h1 := Nat.div_add_mod X b
  have h2 := Nat.mod_lt X hb
  generalize X / b = q at *
  generalize X % b = r at *
  have e : X * 2 + t = b * (q * 2) + (r * 2 + t) := by rw [← h1, Nat.add_mul, Nat.mul_assoc]; omega
  refine ⟨fun h => ?_, fun h => ?_⟩
  · have e2 : X * 2 + t = b * (q * 2 + 1) + (r * 2 + t - b) := by rw [e, Nat.mul_add, Nat.mul_one]; omega
    have h3 : r * 2 + t - b < b := by omega
    rw [e2]
    exact ⟨by rw [Nat.mul_add_div hb, Nat.div_eq_of_lt h3], by rw [Nat.mul_add_mod, Nat.mod_eq_of_lt h3]⟩
  · have h3 : r * 2 + t < b := by omega
    rw [e]
    exact ⟨by rw [Nat.mul_add_div hb, Nat.div_eq_of_lt h3], by rw [Nat.mul_add_mod, Nat.mod_eq_of_lt h3]⟩
theorem ln_twice {r b t : Nat} (h : r < b) (ht : t ≤ 1) : ln (r * 2 + t) ≤ ln b + 1 := by
  rw [ln_le]
  have h1 := lt_ln b
  have h2 : r * 2 + t < 2 * b := by omega
  have h3 : 2 * b ≤ B * B ^ ln b := Nat.mul_le_mul (by decide) (Nat.le_of_lt h1)
  rw [Nat.pow_succ, Nat.mul_comm (B ^ ln b)]
  omega
theorem sg_ge {a b : Nat} : (0 ≤ sg a b) ↔ b ≤ a := by unfold sg; split <;> (try split) <;> constructor <;> intro h <;> omega
theorem divide3_c (a b : Nat) (hb : 0 < b) (hla : ln a < 4294967200) (hlb : ln b < 4294967200) : Con Try.prog 84 [M a, M b] (.tp [M (a / b), M (a % b)]) := by
  refine con_of Try.func84 rfl rfl rfl rfl rfl ?_
  have la : ((limbs a).length : Int) = ln a := by rw [limbs_length]
  repeat (first | refine seq_ ?_ | refine region_ ?_ | refine nil_ ?_ | refine block_ ?_ | refine stepY (y_move rfl) rfl ?_ | refine stepY (y_assign rfl) rfl ?_ | refine stepY (y_len_si rfl) rfl ?_ | refine stepY (y_binn rfl rfl rfl (by simp only [InK, loK, hiK]; omega)) rfl ?_)
  refine le_C (i := 6) (M 0) rfl (.nil _ _) ?_
  refine le_C (i := 7) (M 0) rfl (.nil _ _) ?_
  refine loop_ (α := Nat) (fun j => ([(0, .p (M a)), (1, .p (M b)), (6, .p (M (a / B ^ j / b))), (7, .p (M (a / B ^ j % b))), (8, .p (I ((j : Int) - 1)))], [])) (fun j => j ≤ ln a) id (ln a) (Nat.le_refl _) ?_ ?_ ?_
  · rw [la, Nat.div_eq_of_lt (lt_ln a), Nat.zero_div, Nat.zero_mod]; (repeat (first | exact sub_nil | refine sub_cons rfl ?_))
  · (repeat (exact subH_nil))
  intro j hj
  by_cases h0 : j = 0
  · subst h0
    rw [Nat.pow_zero, Nat.div_one]
    repeat (first | refine seq_ ?_ | refine region_ ?_ | refine nil_ ?_ | refine exit_ ?_ | refine ret_ ?_ | refine cond_f rfl ?_ | refine stepY (y_move rfl) rfl ?_ | refine stepY (y_assign rfl) rfl ?_ | refine stepY (y_cmpF rfl rfl rfl (by omega)) rfl ?_)
    ((apply fin_r); (repeat (first | exact .nil | exact .tmp rfl | apply ResL.cons)); (repeat (exact .refl _)))
  obtain ⟨i, rfl⟩ : ∃ i, j = i + 1 := ⟨j - 1, by omega⟩
  rw [show (((i + 1 : Nat) : Int) - 1) = (i : Int) by omega]
  have ra : rd (limbs a) (i : Int) = ((dg a i : Nat) : Int) := rd_limbs a (by omega)
  have ba := dg_lt a i
  repeat (first | refine seq_ ?_ | refine region_ ?_ | refine nil_ ?_ | refine skip_ ?_ | refine block_ ?_ | refine cond_t rfl ?_ | refine stepY (y_move rfl) rfl ?_ | refine stepY (y_assign rfl) rfl ?_ | refine stepY (y_load_rc1 rfl rfl) rfl ?_ | refine stepY (y_index_si rfl rfl (by omega) (by omega)) rfl ?_ | refine stepY (y_cmpT rfl rfl rfl (by omega)) rfl ?_)
  rw [ra]
  refine loop_ (α := Nat) (fun k => ([(0, .p (M a)), (1, .p (M b)), (6, .p (M (xs a i k / b))), (7, .p (M (xs a i k % b))), (8, .p (I (i : Int))), (9, .p (U ((dg a i * 2 ^ k % 4294967296 : Nat) : Int))), (10, .p (I k))], [])) (fun k => k ≤ 32) (fun k => 32 - k) 0 (Nat.zero_le _) ?_ ?_ ?_
  · rw [xs_zero, Nat.pow_zero, Nat.mul_one, show dg a i % 4294967296 = dg a i from Nat.mod_eq_of_lt (by unfold B at ba; exact ba)]; (repeat (first | exact sub_nil | refine sub_cons rfl ?_))
  · (repeat (exact subH_nil))
  intro k hk
  by_cases hk2 : k < 32
  · have hlm : dg a i * 2 ^ k % 4294967296 < 4294967296 := Nat.mod_lt _ (by decide)
    have htd := top_bit (d := dg a i) (k := k) (by unfold B at ba; exact ba) (by omega)
    have hln := limb_next (d := dg a i) (k := k)
    have ht1 : dg a i * 2 ^ k % 4294967296 / 2147483648 ≤ 1 := by omega
    have hds := dstep (X := xs a i k) hb ht1
    have hr := Nat.mod_lt (xs a i k) hb
    have l1 : ln (xs a i k % b) ≤ ln b := ln_mono (Nat.le_of_lt hr)
    have l2 : ln (xs a i k / b) ≤ ln a := ln_mono (Nat.le_trans (Nat.div_le_self _ _) (xs_le a i k hk))
    have hs1 := shift3_c (xs a i k % b) (dg a i * 2 ^ k % 4294967296 / 2147483648) (by omega) ht1
    have l3 := ln_twice hr ht1
    have hcm := compare3_c (xs a i k % b * 2 + dg a i * 2 ^ k % 4294967296 / 2147483648) b
    have hlw : IntKind.wrap .u32 (((dg a i * 2 ^ k % 4294967296 : Nat) : Int) * 2) = ((dg a i * 2 ^ k % 4294967296 * 2 % 4294967296 : Nat) : Int) := by rw [wrap_u32]; omega
    by_cases hge : b ≤ xs a i k % b * 2 + dg a i * 2 ^ k % 4294967296 / 2147483648
    · have hd := hds.1 hge
      have hg := sg_ge.2 hge
      have hmn := minus3_c _ b (by omega) hge
      have hs2 := shift3_c (xs a i k / b) 1 (by omega) (by omega)
      repeat (first | refine seq_ ?_ | refine region_ ?_ | refine nil_ ?_ | refine skip_ ?_ | refine block_ ?_ | refine cond_t rfl ?_ | refine stepY (y_move rfl) rfl ?_ | refine stepY (y_quop rfl rfl (by omega) (by omega) (by simp only [InK, loK, hiK]; omega)) rfl ?_ | refine stepY (y_cmpT rfl rfl rfl (by omega)) rfl ?_)
      refine call_ Try.func105 rfl rfl (hs1) rfl (by repeat (first | exact .refl _ | apply Les.cons | exact .nil)) rfl ?_
      repeat (first | refine seq_ ?_ | refine region_ ?_ | refine nil_ ?_ | refine stepY (y_move rfl) rfl ?_ | refine stepY (y_assign rfl) rfl ?_ | refine stepY (y_bin rfl rfl rfl) rfl ?_)
      rw [hlw]
      refine call_ Try.func72 rfl rfl (hcm) rfl (by repeat (first | exact .refl _ | apply Les.cons | exact .nil)) rfl ?_
      repeat (first | refine seq_ ?_ | refine region_ ?_ | refine nil_ ?_ | refine cond_t rfl ?_ | refine stepY (y_move rfl) rfl ?_ | refine stepY (y_cmpT rfl rfl rfl (by omega)) rfl ?_)
      refine call_ Try.func104 rfl rfl (hmn) rfl (by repeat (first | exact .refl _ | apply Les.cons | exact .nil)) rfl ?_
      repeat (first | refine region_ ?_ | refine nil_ ?_ | refine stepY (y_move rfl) rfl ?_ | refine stepY (y_assign rfl) rfl ?_)
      refine call_ Try.func105 rfl rfl (hs2) rfl (by repeat (first | exact .refl _ | apply Les.cons | exact .nil)) rfl ?_
      repeat (first | refine region_ ?_ | refine nil_ ?_ | refine stepY (y_move rfl) rfl ?_ | refine stepY (y_assign rfl) rfl ?_ | refine stepY (y_binn rfl rfl rfl (by simp only [InK, loK, hiK]; omega)) rfl ?_)
      rw [limb_next]
      refine ⟨k + 1, by omega, by omega, ?_, ?_⟩
      · rw [xs_step a i hk2, ← htd, hd.1, hd.2]; (repeat (first | exact sub_nil | refine sub_cons rfl ?_))
      · (repeat (exact subH_nil))
    · have hd := hds.2 hge
      have hg : ¬ 0 ≤ sg (xs a i k % b * 2 + dg a i * 2 ^ k % 4294967296 / 2147483648) b := fun h => hge (sg_ge.1 h)
      have hs2 := shift3_c (xs a i k / b) 0 (by omega) (by omega)
      repeat (first | refine seq_ ?_ | refine region_ ?_ | refine nil_ ?_ | refine skip_ ?_ | refine block_ ?_ | refine cond_t rfl ?_ | refine stepY (y_move rfl) rfl ?_ | refine stepY (y_quop rfl rfl (by omega) (by omega) (by simp only [InK, loK, hiK]; omega)) rfl ?_ | refine stepY (y_cmpT rfl rfl rfl (by omega)) rfl ?_)
      refine call_ Try.func105 rfl rfl (hs1) rfl (by repeat (first | exact .refl _ | apply Les.cons | exact .nil)) rfl ?_
      repeat (first | refine seq_ ?_ | refine region_ ?_ | refine nil_ ?_ | refine stepY (y_move rfl) rfl ?_ | refine stepY (y_assign rfl) rfl ?_ | refine stepY (y_bin rfl rfl rfl) rfl ?_)
      rw [hlw]
      refine call_ Try.func72 rfl rfl (hcm) rfl (by repeat (first | exact .refl _ | apply Les.cons | exact .nil)) rfl ?_
      repeat (first | refine region_ ?_ | refine nil_ ?_ | refine skip_ ?_ | refine cond_f rfl ?_ | refine stepY (y_move rfl) rfl ?_ | refine stepY (y_cmpF rfl rfl rfl (by omega)) rfl ?_)
      refine call_ Try.func105 rfl rfl (hs2) rfl (by repeat (first | exact .refl _ | apply Les.cons | exact .nil)) rfl ?_
      repeat (first | refine region_ ?_ | refine nil_ ?_ | refine stepY (y_move rfl) rfl ?_ | refine stepY (y_assign rfl) rfl ?_ | refine stepY (y_binn rfl rfl rfl (by simp only [InK, loK, hiK]; omega)) rfl ?_)
      rw [limb_next]
      refine ⟨k + 1, by omega, by omega, ?_, ?_⟩
      · rw [xs_step a i hk2, ← htd, hd.1, hd.2]; (repeat (first | exact sub_nil | refine sub_cons rfl ?_))
      · (repeat (exact subH_nil))
  · obtain rfl : k = 32 := by omega
    rw [xs_top]
    repeat (first | refine seq_ ?_ | refine region_ ?_ | refine nil_ ?_ | refine exit_ ?_ | refine cond_f rfl ?_ | refine stepY (y_move rfl) rfl ?_ | refine stepY (y_assign rfl) rfl ?_ | refine stepY (y_binn rfl rfl rfl (by simp only [InK, loK, hiK]; omega)) rfl ?_ | refine stepY (y_cmpF rfl rfl rfl (by omega)) rfl ?_)
    refine ⟨i, by omega, by simp only [id]; omega, ?_, ?_⟩
    · (repeat (first | exact sub_nil | refine sub_cons rfl ?_))
    · (repeat (exact subH_nil))
end Go.Av

set_option linter.unusedVariables false
set_option linter.unusedSimpArgs false
namespace Go.Av
open Go Go.RowKit
/-- What is told behind a piece of code, of something that exists. -/
theorem cutK_ {P : Program} {N : Nat} {E : Env} {H : Hp} {Q : Exit → Env → Hp → Prop} {x y : Code} (K : Env → Hp → Prop) (h1 : Tr P N x E H (fun e E' H' => e = .normal ∧ K E' H')) (h2 : ∀ E' H', K E' H' → Tr P N y E' H' Q) : Tr P N (.seq x y) E H Q := by
  refine seq_ (h1.conseq fun e E' H' ⟨h, k⟩ => ?_)
  subst h
  exact h2 E' H' k
end Go.Av

set_option maxHeartbeats 8000000
set_option exponentiation.threshold 100000
set_option maxRecDepth 100000
set_option linter.unusedVariables false
set_option linter.unusedSimpArgs false
namespace Go.Av
open Go Go.Proofs
/-! The reference of the fractions: the greatest common divisor -/
theorem gcd_half2 {a b : Nat} (ha : a % 2 = 0) (hb : b % 2 = 0) : Nat.gcd a b = Nat.gcd (a / 2) (b / 2) * 2 := by
  obtain ⟨x, rfl⟩ := Nat.dvd_of_mod_eq_zero ha
  obtain ⟨y, rfl⟩ := Nat.dvd_of_mod_eq_zero hb
  rw [Nat.gcd_mul_left, Nat.mul_div_cancel_left _ (by decide), Nat.mul_div_cancel_left _ (by decide), Nat.mul_comm]
theorem cop2 {b : Nat} (hb : b % 2 = 1) : Nat.gcd 2 b = 1 := by rw [Nat.gcd_rec, hb]; decide
theorem gcd_half1 {a b : Nat} (ha : a % 2 = 0) (hb : b % 2 = 1) : Nat.gcd (a / 2) b = Nat.gcd a b := by
  obtain ⟨x, rfl⟩ := Nat.dvd_of_mod_eq_zero ha
  rw [Nat.mul_div_cancel_left _ (by decide)]
  have hc : Nat.Coprime 2 b := cop2 hb
  exact (Nat.Coprime.gcd_mul_left_cancel x hc).symm
theorem gcd_sub1 {a b : Nat} (h : b ≤ a) : Nat.gcd (a - b) b = Nat.gcd a b := Nat.gcd_sub_self_left h
theorem bl_pos {n : Nat} (h : 0 < n) : 1 ≤ bl n := by rw [bl_half h]; omega
theorem common3_c (a b : Nat) (hla : ln a ≤ 20000) (hlb : ln b ≤ 20000) : Con Try.prog 83 [M a, M b] (M (Nat.gcd a b)) := by
  refine con_of Try.func83 rfl rfl rfl rfl rfl ?_
  have la : ((limbs a).length : Int) = ln a := by rw [limbs_length]
  have lb : ((limbs b).length : Int) = ln b := by rw [limbs_length]
  by_cases ha0 : a = 0
  · subst ha0
    have : ln 0 = 0 := rfl
    rw [Nat.gcd_zero_left]
    repeat (first | refine seq_ ?_ | refine region_ ?_ | refine nil_ ?_ | refine ret_ ?_ | refine cond_t rfl ?_ | refine stepY (y_move rfl) rfl ?_ | refine stepY (y_assign rfl) rfl ?_ | refine stepY (y_len_si rfl) rfl ?_ | refine stepY (y_cmpT rfl rfl rfl (by omega)) rfl ?_)
    ((apply fin_r); (repeat (first | exact .nil | exact .tmp rfl | apply ResL.cons)); (repeat (exact .refl _)))
  by_cases hb0 : b = 0
  · subst hb0
    have : ln 0 = 0 := rfl
    have := ln_pos.2 (Nat.pos_of_ne_zero ha0)
    rw [Nat.gcd_zero_right]
    repeat (first | refine seq_ ?_ | refine region_ ?_ | refine nil_ ?_ | refine skip_ ?_ | refine ret_ ?_ | refine cond_t rfl ?_ | refine cond_f rfl ?_ | refine stepY (y_move rfl) rfl ?_ | refine stepY (y_assign rfl) rfl ?_ | refine stepY (y_len_si rfl) rfl ?_ | (first | refine stepY (y_cmpT rfl rfl rfl (by omega)) rfl ?_ | refine stepY (y_cmpF rfl rfl rfl (by omega)) rfl ?_))
    ((apply fin_r); (repeat (first | exact .nil | exact .tmp rfl | apply ResL.cons)); (repeat (exact .refl _)))
  have pa := ln_pos.2 (Nat.pos_of_ne_zero ha0)
  have pb := ln_pos.2 (Nat.pos_of_ne_zero hb0)
  refine seq_ ?_
  repeat (first | refine region_ ?_ | refine nil_ ?_ | refine stepY (y_assign rfl) rfl ?_)
  refine seq_ (cut_ [(0, .p (M a)), (1, .p (M b))] [] (by
    repeat (first | refine seq_ ?_ | refine region_ ?_ | refine nil_ ?_ | refine skip_ ?_ | refine cond_f rfl ?_ | refine stepY (y_move rfl) rfl ?_ | refine stepY (y_len_si rfl) rfl ?_ | refine stepY (y_cmpF rfl rfl rfl (by omega)) rfl ?_)
    exact ⟨rfl, by (repeat (first | exact sub_nil | refine sub_cons rfl ?_)), by (repeat (exact subH_nil))⟩) ?_)
  refine seq_ (cut_ [(0, .p (M a)), (1, .p (M b))] [] (by
    repeat (first | refine seq_ ?_ | refine region_ ?_ | refine nil_ ?_ | refine skip_ ?_ | refine cond_f rfl ?_ | refine stepY (y_move rfl) rfl ?_ | refine stepY (y_len_si rfl) rfl ?_ | refine stepY (y_cmpF rfl rfl rfl (by omega)) rfl ?_)
    exact ⟨rfl, by (repeat (first | exact sub_nil | refine sub_cons rfl ?_)), by (repeat (exact subH_nil))⟩) ?_)
  refine seq_ ?_
  repeat (first | refine region_ ?_ | refine nil_ ?_ | refine stepY (y_assign rfl) rfl ?_)
  refine cutK_ (fun E' H' => ∃ x y t : Nat, (0 < x ∧ 0 < y ∧ (x % 2 = 1 ∨ y % 2 = 1) ∧ Nat.gcd a b = Nat.gcd x y * 2 ^ t ∧ x ≤ a ∧ y ≤ b ∧ t ≤ 640000) ∧ (∀ i z, lk i [(0, TV.p (M x)), (1, .p (M y)), (5, .p (I (t : Int)))] = some z → lk i E' = some z)) ?_ ?_
  · refine block_ ?_
    refine loop_ (α := Nat × Nat × Nat) (fun s => ([(0, .p (M s.1)), (1, .p (M s.2.1)), (5, .p (I (s.2.2 : Int)))], [])) (fun s => 0 < s.1 ∧ 0 < s.2.1 ∧ Nat.gcd a b = Nat.gcd s.1 s.2.1 * 2 ^ s.2.2 ∧ s.1 * 2 ^ s.2.2 ≤ a ∧ s.1 ≤ a ∧ s.2.1 ≤ b) (fun s => s.1) (a, b, 0) ⟨Nat.pos_of_ne_zero ha0, Nat.pos_of_ne_zero hb0, by simp, by simp, by simp, by simp⟩ ?_ ?_ ?_
    · (repeat (first | exact sub_nil | refine sub_cons rfl ?_))
    · (repeat (exact subH_nil))
    intro ⟨x, y, t⟩ ⟨hx, hy, hg, hxt, hxa, hyb⟩
    dsimp only at hx hy hg hxt hxa hyb ⊢
    have ht : t ≤ 640000 := by
      have h1 := lt_ln a
      rw [B_pow] at h1
      have h2 : 2 ^ t < 2 ^ (32 * ln a) := Nat.lt_of_le_of_lt (Nat.le_trans (Nat.le_mul_of_pos_left _ hx) hxt) h1
      have := (Nat.pow_lt_pow_iff_right (a := 2) (by decide)).1 h2
      omega
    have e1 := even3_c x
    have e2 := even3_c y
    by_cases hx2 : x % 2 = 0
    · rw [decide_eq_true hx2] at e1
      by_cases hy2 : y % 2 = 0
      · rw [decide_eq_true hy2] at e2
        have h1 := halve3_c x (by have := ln_mono hxa; omega)
        have h2 := halve3_c y (by have := ln_mono hyb; omega)
        repeat (first | refine seq_ ?_ | refine region_ ?_ | refine stepY (y_move rfl) rfl ?_)
        refine call_ Try.func102 rfl rfl (e1) rfl (by repeat (first | exact .refl _ | apply Les.cons | exact .nil)) rfl ?_
        repeat (first | refine guard_t rfl rfl rfl ?_ | refine stepY (y_move rfl) rfl ?_)
        refine call_ Try.func102 rfl rfl (e2) rfl (by repeat (first | exact .refl _ | apply Les.cons | exact .nil)) rfl ?_
        repeat (first | refine seq_ ?_ | refine region_ ?_ | refine nil_ ?_ | refine skip_ ?_ | refine block_ ?_ | refine cond_t rfl ?_ | refine stepY (y_move rfl) rfl ?_ | refine stepY (y_pick_t rfl rfl) rfl ?_)
        refine call_ Try.func103 rfl rfl (h1) rfl (by repeat (first | exact .refl _ | apply Les.cons | exact .nil)) rfl ?_
        repeat (first | refine seq_ ?_ | refine region_ ?_ | refine nil_ ?_ | refine stepY (y_move rfl) rfl ?_ | refine stepY (y_assign rfl) rfl ?_)
        refine call_ Try.func103 rfl rfl (h2) rfl (by repeat (first | exact .refl _ | apply Les.cons | exact .nil)) rfl ?_
        repeat (first | refine region_ ?_ | refine nil_ ?_ | refine stepY (y_move rfl) rfl ?_ | refine stepY (y_assign rfl) rfl ?_ | refine stepY (y_binn rfl rfl rfl (by simp only [InK, loK, hiK]; omega)) rfl ?_)
        refine ⟨(x / 2, y / 2, t + 1), ⟨by dsimp only; omega, by dsimp only; omega, ?_, ?_, by dsimp only; omega, by dsimp only; omega⟩, by dsimp only; omega, ?_, ?_⟩
        · rw [hg, gcd_half2 hx2 hy2, Nat.pow_succ, Nat.mul_comm (2 ^ t), Nat.mul_assoc]
        · dsimp only
          rw [Nat.pow_succ, Nat.mul_comm (2 ^ t), ← Nat.mul_assoc, show x / 2 * 2 = x by omega]
          exact hxt
        · (repeat (first | exact sub_nil | refine sub_cons rfl ?_))
        · (repeat (exact subH_nil))
      · rw [decide_eq_false hy2] at e2
        repeat (first | refine seq_ ?_ | refine region_ ?_ | refine stepY (y_move rfl) rfl ?_)
        refine call_ Try.func102 rfl rfl (e1) rfl (by repeat (first | exact .refl _ | apply Les.cons | exact .nil)) rfl ?_
        repeat (first | refine guard_t rfl rfl rfl ?_ | refine stepY (y_move rfl) rfl ?_)
        refine call_ Try.func102 rfl rfl (e2) rfl (by repeat (first | exact .refl _ | apply Les.cons | exact .nil)) rfl ?_
        repeat (first | refine nil_ ?_ | refine exit_ ?_ | refine cond_f rfl ?_ | refine stepY (y_pick_t rfl rfl) rfl ?_)
        exact ⟨rfl, x, y, t, ⟨hx, hy, by omega, hg, hxa, hyb, ht⟩, by (repeat (first | exact sub_nil | refine sub_cons rfl ?_))⟩
    · rw [decide_eq_false hx2] at e1
      repeat (first | refine seq_ ?_ | refine region_ ?_ | refine stepY (y_move rfl) rfl ?_)
      refine call_ Try.func102 rfl rfl (e1) rfl (by repeat (first | exact .refl _ | apply Les.cons | exact .nil)) rfl ?_
      repeat (first | refine nil_ ?_ | refine exit_ ?_ | refine cond_f rfl ?_ | refine guard_f rfl rfl rfl rfl ?_ | refine stepY (y_move rfl) rfl ?_ | refine stepY (y_pick_f rfl rfl) rfl ?_)
      exact ⟨rfl, x, y, t, ⟨hx, hy, by omega, hg, hxa, hyb, ht⟩, by (repeat (first | exact sub_nil | refine sub_cons rfl ?_))⟩
  rintro E' H' ⟨x0, y0, t, ⟨hx0, hy0, hodd, hg, hxa, hyb, ht⟩, hE⟩
  refine Tr.sub (H' := []) ?_ hE (by (repeat (exact subH_nil)))
  clear hE
  have hlx := ln_mono hxa
  have hly := ln_mono hyb
  have lx : ((limbs x0).length : Int) = ln x0 := by rw [limbs_length]
  have ly : ((limbs y0).length : Int) = ln y0 := by rw [limbs_length]
  refine seq_ ?_
  repeat (first | refine region_ ?_ | refine nil_ ?_ | refine stepY (y_move rfl) rfl ?_ | refine stepY (y_assign rfl) rfl ?_ | refine stepY (y_len_si rfl) rfl ?_ | refine stepY (y_binn rfl rfl rfl (by simp only [InK, loK, hiK]; omega)) rfl ?_ | refine stepY (y_binn rfl rfl rfl (by simp only [InK, loK, hiK]; omega)) rfl ?_)
  refine cutK_ (fun E' H' => (∀ i z, lk i [(0, TV.p (M (Nat.gcd x0 y0))), (5, .p (I (t : Int)))] = some z → lk i E' = some z)) ?_ ?_
  · repeat (first | refine seq_ ?_ | refine region_ ?_ | refine nil_ ?_ | refine block_ ?_ | refine stepY (y_assign rfl) rfl ?_)
    refine loop_ (α := Nat × Nat × Nat) (fun s => ([(0, .p (M s.1)), (1, .p (M s.2.1)), (5, .p (I (t : Int))), (6, .p (I (64 * ((ln x0 : Int) + ln y0) + 4))), (7, .p (I (s.2.2 : Int)))], [])) (fun s => 0 < s.1 ∧ (s.1 % 2 = 1 ∨ s.2.1 % 2 = 1) ∧ Nat.gcd s.1 s.2.1 = Nat.gcd x0 y0 ∧ s.2.2 + mu s.1 s.2.1 ≤ 64 * (ln x0 + ln y0) + 1 ∧ s.1 ≤ a ∧ s.2.1 ≤ b) (fun s => mu s.1 s.2.1) (x0, y0, 0) ⟨hx0, hodd, rfl, by have := mu_le x0 y0; dsimp only; omega, hxa, hyb⟩ ?_ ?_ ?_
    · rw [lx, ly]; (repeat (first | exact sub_nil | refine sub_cons rfl ?_))
    · (repeat (exact subH_nil))
    intro ⟨x, y, i⟩ ⟨hx, hod, hgg, hi, hxa', hyb'⟩
    dsimp only at hx hod hgg hi hxa' hyb' ⊢
    have hly' : ((limbs y).length : Int) = ln y := by rw [limbs_length]
    have hlx2 := ln_mono hxa'
    have hly2 := ln_mono hyb'
    by_cases hy : y = 0
    · subst hy
      have hz : ln 0 = 0 := rfl
      rw [Nat.gcd_zero_right] at hgg
      subst hgg
      have hm : i ≤ 64 * (ln x0 + ln y0) + 1 := by omega
      repeat (first | refine seq_ ?_ | refine region_ ?_ | refine nil_ ?_ | refine exit_ ?_ | refine cond_f rfl ?_ | refine guard_t rfl rfl rfl ?_ | refine stepY (y_move rfl) rfl ?_ | refine stepY (y_len_si rfl) rfl ?_ | refine stepY (y_pick_t rfl rfl) rfl ?_ | refine stepY (y_cmpT rfl rfl rfl (by omega)) rfl ?_ | refine stepY (y_cmpF rfl rfl rfl (by omega)) rfl ?_)
      exact ⟨rfl, by (repeat (first | exact sub_nil | refine sub_cons rfl ?_))⟩
    · have hyp := Nat.pos_of_ne_zero hy
      have hyl := ln_pos.2 hyp
      have hmu2 : 2 ≤ mu x y := by have := bl_pos hyp; unfold mu; split <;> omega
      have e1 := even3_c x
      have e2 := even3_c y
      by_cases hx2 : x % 2 = 0
      · rw [decide_eq_true hx2] at e1
        have h1 := halve3_c x (by omega)
        have hmu := mu_ha (b := y) hx hx2
        have hgh := gcd_half1 (a := x) (b := y) hx2 (by omega)
        repeat (first | refine seq_ ?_ | refine region_ ?_ | refine nil_ ?_ | refine skip_ ?_ | refine block_ ?_ | refine cond_t rfl ?_ | refine guard_t rfl rfl rfl ?_ | refine stepY (y_move rfl) rfl ?_ | refine stepY (y_len_si rfl) rfl ?_ | refine stepY (y_pick_t rfl rfl) rfl ?_ | refine stepY (y_cmpT rfl rfl rfl (by omega)) rfl ?_ | refine stepY (y_cmpT rfl rfl rfl (by omega)) rfl ?_)
        refine call_ Try.func102 rfl rfl (e1) rfl (by repeat (first | exact .refl _ | apply Les.cons | exact .nil)) rfl ?_
        repeat (first | refine region_ ?_ | refine nil_ ?_ | refine cond_t rfl ?_ | refine stepY (y_move rfl) rfl ?_)
        refine call_ Try.func103 rfl rfl (h1) rfl (by repeat (first | exact .refl _ | apply Les.cons | exact .nil)) rfl ?_
        repeat (first | refine region_ ?_ | refine nil_ ?_ | refine stepY (y_move rfl) rfl ?_ | refine stepY (y_assign rfl) rfl ?_ | refine stepY (y_binn rfl rfl rfl (by simp only [InK, loK, hiK]; omega)) rfl ?_)
        refine ⟨(x / 2, y, i + 1), ⟨?_, ?_, ?_, ?_, ?_, ?_⟩, ?_, ?_, ?_⟩
        · dsimp only; omega
        · dsimp only; omega
        · exact hgh.trans hgg
        · dsimp only; omega
        · dsimp only; omega
        · exact hyb'
        · dsimp only; omega
        · (repeat (first | exact sub_nil | refine sub_cons rfl ?_))
        · (repeat (exact subH_nil))
      · rw [decide_eq_false hx2] at e1
        by_cases hy2 : y % 2 = 0
        · rw [decide_eq_true hy2] at e2
          have h1 := halve3_c y (by omega)
          have hmu := mu_hb (a := x) hyp hy2
          have hgh := gcd_half1 (a := y) (b := x) hy2 (by omega)
          rw [Nat.gcd_comm, Nat.gcd_comm y] at hgh
          repeat (first | refine seq_ ?_ | refine region_ ?_ | refine nil_ ?_ | refine skip_ ?_ | refine block_ ?_ | refine cond_t rfl ?_ | refine guard_t rfl rfl rfl ?_ | refine stepY (y_move rfl) rfl ?_ | refine stepY (y_len_si rfl) rfl ?_ | refine stepY (y_pick_t rfl rfl) rfl ?_ | refine stepY (y_cmpT rfl rfl rfl (by omega)) rfl ?_ | refine stepY (y_cmpT rfl rfl rfl (by omega)) rfl ?_)
          refine call_ Try.func102 rfl rfl (e1) rfl (by repeat (first | exact .refl _ | apply Les.cons | exact .nil)) rfl ?_
          repeat (first | refine seq_ ?_ | refine region_ ?_ | refine nil_ ?_ | refine cond_f rfl ?_ | refine stepY (y_move rfl) rfl ?_)
          refine call_ Try.func102 rfl rfl (e2) rfl (by repeat (first | exact .refl _ | apply Les.cons | exact .nil)) rfl ?_
          repeat (first | refine region_ ?_ | refine nil_ ?_ | refine cond_t rfl ?_ | refine stepY (y_move rfl) rfl ?_)
          refine call_ Try.func103 rfl rfl (h1) rfl (by repeat (first | exact .refl _ | apply Les.cons | exact .nil)) rfl ?_
          repeat (first | refine region_ ?_ | refine nil_ ?_ | refine stepY (y_move rfl) rfl ?_ | refine stepY (y_assign rfl) rfl ?_ | refine stepY (y_binn rfl rfl rfl (by simp only [InK, loK, hiK]; omega)) rfl ?_)
          refine ⟨(x, y / 2, i + 1), ⟨?_, ?_, ?_, ?_, ?_, ?_⟩, ?_, ?_, ?_⟩
          · exact hx
          · dsimp only; omega
          · exact hgh.trans hgg
          · dsimp only; omega
          · exact hxa'
          · dsimp only; omega
          · dsimp only; omega
          · (repeat (first | exact sub_nil | refine sub_cons rfl ?_))
          · (repeat (exact subH_nil))
        · rw [decide_eq_false hy2] at e2
          have hcm := compare3_c x y
          by_cases hxy : y < x
          · have hsg : 0 < sg x y := by rw [sg_gt hxy]; omega
            have hmn := minus3_c x y (by omega) (Nat.le_of_lt hxy)
            have hmu := mu_sa (a := x) (b := y) (by omega) (by omega) (Nat.le_of_lt hxy)
            have hgs := gcd_sub1 (Nat.le_of_lt hxy)
            repeat (first | refine seq_ ?_ | refine region_ ?_ | refine nil_ ?_ | refine skip_ ?_ | refine block_ ?_ | refine cond_t rfl ?_ | refine guard_t rfl rfl rfl ?_ | refine stepY (y_move rfl) rfl ?_ | refine stepY (y_len_si rfl) rfl ?_ | refine stepY (y_pick_t rfl rfl) rfl ?_ | refine stepY (y_cmpT rfl rfl rfl (by omega)) rfl ?_ | refine stepY (y_cmpT rfl rfl rfl (by omega)) rfl ?_)
            refine call_ Try.func102 rfl rfl (e1) rfl (by repeat (first | exact .refl _ | apply Les.cons | exact .nil)) rfl ?_
            repeat (first | refine seq_ ?_ | refine region_ ?_ | refine nil_ ?_ | refine cond_f rfl ?_ | refine stepY (y_move rfl) rfl ?_)
            refine call_ Try.func102 rfl rfl (e2) rfl (by repeat (first | exact .refl _ | apply Les.cons | exact .nil)) rfl ?_
            repeat (first | refine seq_ ?_ | refine region_ ?_ | refine nil_ ?_ | refine cond_f rfl ?_ | refine stepY (y_move rfl) rfl ?_)
            refine call_ Try.func72 rfl rfl (hcm) rfl (by repeat (first | exact .refl _ | apply Les.cons | exact .nil)) rfl ?_
            repeat (first | refine region_ ?_ | refine nil_ ?_ | refine cond_t rfl ?_ | refine stepY (y_move rfl) rfl ?_ | refine stepY (y_cmpT rfl rfl rfl (by omega)) rfl ?_)
            refine call_ Try.func104 rfl rfl (hmn) rfl (by repeat (first | exact .refl _ | apply Les.cons | exact .nil)) rfl ?_
            repeat (first | refine region_ ?_ | refine nil_ ?_ | refine stepY (y_move rfl) rfl ?_ | refine stepY (y_assign rfl) rfl ?_ | refine stepY (y_binn rfl rfl rfl (by simp only [InK, loK, hiK]; omega)) rfl ?_)
            refine ⟨(x - y, y, i + 1), ⟨?_, ?_, ?_, ?_, ?_, ?_⟩, ?_, ?_, ?_⟩
            · dsimp only; omega
            · dsimp only; omega
            · exact hgs.trans hgg
            · dsimp only; omega
            · dsimp only; omega
            · exact hyb'
            · dsimp only; omega
            · (repeat (first | exact sub_nil | refine sub_cons rfl ?_))
            · (repeat (exact subH_nil))
          · have hsg : ¬ 0 < sg x y := by unfold sg; split <;> (try split) <;> omega
            have hmn := minus3_c y x (by omega) (by omega)
            have hmu := mu_sb (a := x) (b := y) (by omega) (by omega) (by omega)
            have hgs := gcd_sub1 (a := y) (b := x) (by omega)
            rw [Nat.gcd_comm, Nat.gcd_comm y] at hgs
            repeat (first | refine seq_ ?_ | refine region_ ?_ | refine nil_ ?_ | refine skip_ ?_ | refine block_ ?_ | refine cond_t rfl ?_ | refine guard_t rfl rfl rfl ?_ | refine stepY (y_move rfl) rfl ?_ | refine stepY (y_len_si rfl) rfl ?_ | refine stepY (y_pick_t rfl rfl) rfl ?_ | refine stepY (y_cmpT rfl rfl rfl (by omega)) rfl ?_ | refine stepY (y_cmpT rfl rfl rfl (by omega)) rfl ?_)
            refine call_ Try.func102 rfl rfl (e1) rfl (by repeat (first | exact .refl _ | apply Les.cons | exact .nil)) rfl ?_
            repeat (first | refine seq_ ?_ | refine region_ ?_ | refine nil_ ?_ | refine cond_f rfl ?_ | refine stepY (y_move rfl) rfl ?_)
            refine call_ Try.func102 rfl rfl (e2) rfl (by repeat (first | exact .refl _ | apply Les.cons | exact .nil)) rfl ?_
            repeat (first | refine seq_ ?_ | refine region_ ?_ | refine nil_ ?_ | refine cond_f rfl ?_ | refine stepY (y_move rfl) rfl ?_)
            refine call_ Try.func72 rfl rfl (hcm) rfl (by repeat (first | exact .refl _ | apply Les.cons | exact .nil)) rfl ?_
            repeat (first | refine region_ ?_ | refine nil_ ?_ | refine cond_f rfl ?_ | refine stepY (y_move rfl) rfl ?_ | refine stepY (y_cmpF rfl rfl rfl (by omega)) rfl ?_)
            refine call_ Try.func104 rfl rfl (hmn) rfl (by repeat (first | exact .refl _ | apply Les.cons | exact .nil)) rfl ?_
            repeat (first | refine region_ ?_ | refine nil_ ?_ | refine stepY (y_move rfl) rfl ?_ | refine stepY (y_assign rfl) rfl ?_ | refine stepY (y_binn rfl rfl rfl (by simp only [InK, loK, hiK]; omega)) rfl ?_)
            refine ⟨(x, y - x, i + 1), ⟨?_, ?_, ?_, ?_, ?_, ?_⟩, ?_, ?_, ?_⟩
            · exact hx
            · dsimp only; omega
            · exact hgs.trans hgg
            · dsimp only; omega
            · exact hxa'
            · dsimp only; omega
            · dsimp only; omega
            · (repeat (first | exact sub_nil | refine sub_cons rfl ?_))
            · (repeat (exact subH_nil))
  intro E' H' hE
  refine Tr.sub (H' := []) ?_ hE (by (repeat (exact subH_nil)))
  repeat (first | refine seq_ ?_ | refine region_ ?_ | refine nil_ ?_ | refine block_ ?_ | refine stepY (y_assign rfl) rfl ?_)
  refine loop_ (α := Nat) (fun j => ([(0, .p (M (Nat.gcd x0 y0 * 2 ^ j))), (5, .p (I (t : Int))), (8, .p (I (j : Int)))], [])) (fun j => j ≤ t) (fun j => t - j) 0 (Nat.zero_le _) ?_ ?_ ?_
  · rw [Nat.pow_zero, Nat.mul_one]; (repeat (first | exact sub_nil | refine sub_cons rfl ?_))
  · (repeat (exact subH_nil))
  intro j hj
  by_cases hjt : j < t
  · have hle : Nat.gcd x0 y0 * 2 ^ j ≤ a := by
      have h1 : Nat.gcd a b ≤ a := Nat.gcd_le_left _ (by omega)
      have h2 : Nat.gcd x0 y0 * 2 ^ j ≤ Nat.gcd x0 y0 * 2 ^ t := Nat.mul_le_mul_left _ (Nat.pow_le_pow_right (by decide) hj)
      omega
    have hs := shift3_c (Nat.gcd x0 y0 * 2 ^ j) 0 (by have := ln_mono hle; omega) (by decide)
    rw [Nat.add_zero, Nat.mul_assoc, ← Nat.pow_succ] at hs
    repeat (first | refine seq_ ?_ | refine region_ ?_ | refine nil_ ?_ | refine skip_ ?_ | refine block_ ?_ | refine cond_t rfl ?_ | refine stepY (y_move rfl) rfl ?_ | refine stepY (y_cmpT rfl rfl rfl (by omega)) rfl ?_)
    refine call_ Try.func105 rfl rfl (hs) rfl (by repeat (first | exact .refl _ | apply Les.cons | exact .nil)) rfl ?_
    repeat (first | refine region_ ?_ | refine nil_ ?_ | refine stepY (y_move rfl) rfl ?_ | refine stepY (y_assign rfl) rfl ?_ | refine stepY (y_binn rfl rfl rfl (by simp only [InK, loK, hiK]; omega)) rfl ?_)
    refine ⟨j + 1, by omega, by omega, ?_, ?_⟩ <;> (repeat (first | exact sub_nil | exact subH_nil | refine sub_cons rfl ?_))
  · obtain rfl : j = t := by omega
    rw [hg]
    repeat (first | refine seq_ ?_ | refine region_ ?_ | refine nil_ ?_ | refine exit_ ?_ | refine ret_ ?_ | refine cond_f rfl ?_ | refine stepY (y_move rfl) rfl ?_ | refine stepY (y_assign rfl) rfl ?_ | refine stepY (y_cmpF rfl rfl rfl (by omega)) rfl ?_)
    ((apply fin_r); (repeat (first | exact .nil | exact .tmp rfl | apply ResL.cons)); (repeat (exact .refl _)))
end Go.Av

set_option maxHeartbeats 8000000
set_option exponentiation.threshold 100000
set_option maxRecDepth 100000
set_option linter.unusedVariables false
set_option linter.unusedSimpArgs false
namespace Go.Av
open Go Go.Proofs
/-! The reference of the fractions: made, Valid, New, Of, sum, added -/
theorem dg_one {g : Nat} (h : ln g = 1) : rd (limbs g) 0 = (g : Int) := by
  have hb : g < B := by have := lt_ln g; rw [h] at this; simpa using this
  have := rd_limbs g (i := 0) (by omega)
  rw [this, show dg g (0 : Int).toNat = g from by show g / B ^ 0 % B = g; rw [Nat.pow_zero, Nat.div_one, Nat.mod_eq_of_lt hb]]
theorem one3_c (g : Nat) : Con Try.prog 86 [M g] (Bo (g == 1)) := by
  refine con_of Try.func86 rfl rfl rfl rfl rfl ?_
  refine len_C (i := 0) rfl (fun hL => ?_)
  have hlg : ((limbs g).length : Int) = ln g := by rw [limbs_length]
  by_cases h4 : ln g = 1
  · have hd := dg_one h4
    by_cases h5 : g = 1
    · rw [show (g == 1) = true from beq_iff_eq.2 h5]
      repeat (first | refine seq_ ?_ | refine region_ ?_ | refine nil_ ?_ | refine ret_ ?_ | refine guard_t rfl rfl rfl ?_ | refine stepY (y_move rfl) rfl ?_ | refine stepY (y_assign rfl) rfl ?_ | refine stepY (y_load_rc1 rfl rfl) rfl ?_ | refine stepY (y_len_si rfl) rfl ?_ | refine stepY (y_pick_t rfl rfl) rfl ?_ | refine stepY (y_index_si rfl rfl (by omega) (by omega)) rfl ?_ | refine stepY (y_cmpT rfl rfl rfl (by omega)) rfl ?_)
      ((apply fin_r); (repeat (first | exact .nil | exact .tmp rfl | apply ResL.cons)); (repeat (exact .refl _)))
    · rw [show (g == 1) = false from beq_eq_false_iff_ne.2 h5]
      repeat (first | refine seq_ ?_ | refine region_ ?_ | refine nil_ ?_ | refine ret_ ?_ | refine guard_t rfl rfl rfl ?_ | refine stepY (y_move rfl) rfl ?_ | refine stepY (y_assign rfl) rfl ?_ | refine stepY (y_load_rc1 rfl rfl) rfl ?_ | refine stepY (y_len_si rfl) rfl ?_ | refine stepY (y_pick_t rfl rfl) rfl ?_ | refine stepY (y_index_si rfl rfl (by omega) (by omega)) rfl ?_ | (first | refine stepY (y_cmpT rfl rfl rfl (by omega)) rfl ?_ | refine stepY (y_cmpF rfl rfl rfl (by omega)) rfl ?_))
      ((apply fin_r); (repeat (first | exact .nil | exact .tmp rfl | apply ResL.cons)); (repeat (exact .refl _)))
  · rw [show (g == 1) = false from beq_eq_false_iff_ne.2 (fun h => h4 (by rw [h]; rfl))]
    repeat (first | refine seq_ ?_ | refine region_ ?_ | refine nil_ ?_ | refine ret_ ?_ | refine guard_f rfl rfl rfl rfl ?_ | refine stepY (y_move rfl) rfl ?_ | refine stepY (y_assign rfl) rfl ?_ | refine stepY (y_len_si rfl) rfl ?_ | refine stepY (y_pick_f rfl rfl) rfl ?_ | refine stepY (y_cmpF rfl rfl rfl (by omega)) rfl ?_)
    ((apply fin_r); (repeat (first | exact .nil | exact .tmp rfl | apply ResL.cons)); (repeat (exact .refl _)))
abbrev ZM : PV := .ag [Bo false, M 0, Bo false, M 0]
def resM (x : Rat) : PV := if okQ x then .tp [QV x, E_ 0] else .tp [ZM, E_ 4]
theorem resM_ok {x : Rat} (h : okQ x) : resM x = .tp [QV x, E_ 0] := by unfold resM; rw [if_pos h]
theorem resM_no {x : Rat} (h : ¬ okQ x) : resM x = .tp [ZM, E_ 4] := by unfold resM; rw [if_neg h]
theorem resM_eq (s : Bool) (n : Nat) {d : Nat} (hd : 0 < d) : resM (mkRat (sgn s n) d) = if ln (n / Nat.gcd n d) ≤ 512 ∧ ln (d / Nat.gcd n d) ≤ 512 then .tp [.ag [Bo (s && decide (0 < n / Nat.gcd n d)), M (n / Nat.gcd n d), Bo false, M (d / Nat.gcd n d)], E_ 0] else .tp [ZM, E_ 4] := by
  have hnm := mkQ_num s n hd
  have hdn := mkQ_den s n hd
  have hna : (mkRat (sgn s n) d).num.natAbs = n / Nat.gcd n d := by rw [hnm, sgn_abs]
  have hsg : decide ((mkRat (sgn s n) d).num < 0) = (s && decide (0 < n / Nat.gcd n d)) := by rw [hnm, sgn_neg]
  by_cases h : okQ (mkRat (sgn s n) d)
  · rw [resM_ok h]
    unfold okQ at h
    rw [hna, hdn] at h
    rw [if_pos h]
    simp only [QV]
    rw [hsg, hna, hdn]
  · rw [resM_no h]
    unfold okQ at h
    rw [hna, hdn] at h
    rw [if_neg h]
theorem made3_c (s : Bool) (n d : Nat) (hd : 0 < d) (hn : ln n ≤ 20000) (hld : ln d ≤ 20000) : Con Try.prog 67 [Bo s, M n, M d] (resM (mkRat (sgn s n) d)) := by
  rw [resM_eq _ _ hd]
  have hg := gcd_pos' (n := n) hd
  have hc := common3_c n d hn hld
  have hgl : ln (Nat.gcd n d) ≤ 20000 := Nat.le_trans (ln_mono (Nat.gcd_le_right _ hd)) hld
  have hD1 := divide3_c n (Nat.gcd n d) hg (by omega) (by omega)
  have hD2 := divide3_c d (Nat.gcd n d) hg (by omega) (by omega)
  generalize n / Nat.gcd n d = a at *
  generalize d / Nat.gcd n d = b at *
  have hla : ((limbs a).length : Int) = ln a := by rw [limbs_length]
  have hlb : ((limbs b).length : Int) = ln b := by rw [limbs_length]
  refine con_of Try.func67 rfl rfl rfl rfl rfl ?_
  by_cases h1 : ln a ≤ 512
  · by_cases h2 : ln b ≤ 512
    · rw [if_pos ⟨h1, h2⟩]
      cases s with
      | false =>
        repeat (first | refine seq_ ?_ | refine region_ ?_ | refine nil_ ?_ | refine stepY (y_move rfl) rfl ?_ | refine stepY (y_assign rfl) rfl ?_ | refine stepE (e_alloc rfl rfl rfl) ?_)
        refine call_ Try.func83 rfl rfl (hc) rfl (by repeat (first | exact .refl _ | apply Les.cons | exact .nil)) rfl ?_
        repeat (first | refine seq_ ?_ | refine region_ ?_ | refine nil_ ?_ | refine stepY (y_move rfl) rfl ?_ | refine stepY (y_assign rfl) rfl ?_)
        refine call_ Try.func84 rfl rfl (hD1) rfl (by repeat (first | exact .refl _ | apply Les.cons | exact .nil)) rfl ?_
        repeat (first | refine seq_ ?_ | refine region_ ?_ | refine nil_ ?_ | refine stepY (y_move rfl) rfl ?_ | refine stepY (y_assign rfl) rfl ?_ | refine stepY (y_extract rfl rfl) rfl ?_)
        refine call_ Try.func84 rfl rfl (hD2) rfl (by repeat (first | exact .refl _ | apply Les.cons | exact .nil)) rfl ?_
        repeat (first | refine seq_ ?_ | refine region_ ?_ | refine nil_ ?_ | refine skip_ ?_ | refine ret_ ?_ | refine cond_f rfl ?_ | refine guard_t rfl rfl rfl ?_ | refine guard_f rfl rfl rfl rfl ?_ | refine stepY (y_move rfl) rfl ?_ | refine stepY (y_assign rfl) rfl ?_ | refine stepY (y_extract rfl rfl) rfl ?_ | refine stepY (y_len_si rfl) rfl ?_ | refine stepY (y_pick_f rfl rfl) rfl ?_ | refine stepY (y_build rfl rfl rfl) rfl ?_ | refine stepY (y_cmpF rfl rfl rfl (by omega)) rfl ?_ | refine stepE (e_store rfl rfl rfl rfl rfl rfl rfl) ?_)
        ((apply fin_r); (repeat (first | exact .nil | exact .tmp rfl | exact .agg rfl rfl rfl | apply ResL.cons)); (repeat (exact .refl _)))
      | true =>
        by_cases h4 : 0 < a
        · have := ln_pos.2 h4
          rw [decide_eq_true h4]
          repeat (first | refine seq_ ?_ | refine region_ ?_ | refine nil_ ?_ | refine stepY (y_move rfl) rfl ?_ | refine stepY (y_assign rfl) rfl ?_ | refine stepE (e_alloc rfl rfl rfl) ?_)
          refine call_ Try.func83 rfl rfl (hc) rfl (by repeat (first | exact .refl _ | apply Les.cons | exact .nil)) rfl ?_
          repeat (first | refine seq_ ?_ | refine region_ ?_ | refine nil_ ?_ | refine stepY (y_move rfl) rfl ?_ | refine stepY (y_assign rfl) rfl ?_)
          refine call_ Try.func84 rfl rfl (hD1) rfl (by repeat (first | exact .refl _ | apply Les.cons | exact .nil)) rfl ?_
          repeat (first | refine seq_ ?_ | refine region_ ?_ | refine nil_ ?_ | refine stepY (y_move rfl) rfl ?_ | refine stepY (y_assign rfl) rfl ?_ | refine stepY (y_extract rfl rfl) rfl ?_)
          refine call_ Try.func84 rfl rfl (hD2) rfl (by repeat (first | exact .refl _ | apply Les.cons | exact .nil)) rfl ?_
          repeat (first | refine seq_ ?_ | refine region_ ?_ | refine nil_ ?_ | refine skip_ ?_ | refine ret_ ?_ | refine cond_f rfl ?_ | refine guard_t rfl rfl rfl ?_ | refine stepY (y_move rfl) rfl ?_ | refine stepY (y_assign rfl) rfl ?_ | refine stepY (y_extract rfl rfl) rfl ?_ | refine stepY (y_len_si rfl) rfl ?_ | (first | refine stepY (y_pick_t rfl rfl) rfl ?_ | refine stepY (y_pick_f rfl rfl) rfl ?_) | refine stepY (y_build rfl rfl rfl) rfl ?_ | (first | refine stepY (y_cmpT rfl rfl rfl (by omega)) rfl ?_ | refine stepY (y_cmpF rfl rfl rfl (by omega)) rfl ?_) | refine stepE (e_store rfl rfl rfl rfl rfl rfl rfl) ?_)
          ((apply fin_r); (repeat (first | exact .nil | exact .tmp rfl | exact .agg rfl rfl rfl | apply ResL.cons)); (repeat (exact .refl _)))
        · have : ¬ 0 < ln a := fun h => h4 (ln_pos.1 h)
          rw [decide_eq_false h4]
          repeat (first | refine seq_ ?_ | refine region_ ?_ | refine nil_ ?_ | refine stepY (y_move rfl) rfl ?_ | refine stepY (y_assign rfl) rfl ?_ | refine stepE (e_alloc rfl rfl rfl) ?_)
          refine call_ Try.func83 rfl rfl (hc) rfl (by repeat (first | exact .refl _ | apply Les.cons | exact .nil)) rfl ?_
          repeat (first | refine seq_ ?_ | refine region_ ?_ | refine nil_ ?_ | refine stepY (y_move rfl) rfl ?_ | refine stepY (y_assign rfl) rfl ?_)
          refine call_ Try.func84 rfl rfl (hD1) rfl (by repeat (first | exact .refl _ | apply Les.cons | exact .nil)) rfl ?_
          repeat (first | refine seq_ ?_ | refine region_ ?_ | refine nil_ ?_ | refine stepY (y_move rfl) rfl ?_ | refine stepY (y_assign rfl) rfl ?_ | refine stepY (y_extract rfl rfl) rfl ?_)
          refine call_ Try.func84 rfl rfl (hD2) rfl (by repeat (first | exact .refl _ | apply Les.cons | exact .nil)) rfl ?_
          repeat (first | refine seq_ ?_ | refine region_ ?_ | refine nil_ ?_ | refine skip_ ?_ | refine ret_ ?_ | refine cond_f rfl ?_ | refine guard_t rfl rfl rfl ?_ | refine stepY (y_move rfl) rfl ?_ | refine stepY (y_assign rfl) rfl ?_ | refine stepY (y_extract rfl rfl) rfl ?_ | refine stepY (y_len_si rfl) rfl ?_ | (first | refine stepY (y_pick_t rfl rfl) rfl ?_ | refine stepY (y_pick_f rfl rfl) rfl ?_) | refine stepY (y_build rfl rfl rfl) rfl ?_ | refine stepY (y_cmpF rfl rfl rfl (by omega)) rfl ?_ | refine stepE (e_store rfl rfl rfl rfl rfl rfl rfl) ?_)
          ((apply fin_r); (repeat (first | exact .nil | exact .tmp rfl | exact .agg rfl rfl rfl | apply ResL.cons)); (repeat (exact .refl _)))
    · rw [if_neg (fun h => h2 h.2)]
      repeat (first | refine seq_ ?_ | refine region_ ?_ | refine nil_ ?_ | refine stepY (y_move rfl) rfl ?_ | refine stepY (y_assign rfl) rfl ?_ | refine stepE (e_alloc rfl rfl rfl) ?_)
      refine call_ Try.func83 rfl rfl (hc) rfl (by repeat (first | exact .refl _ | apply Les.cons | exact .nil)) rfl ?_
      repeat (first | refine seq_ ?_ | refine region_ ?_ | refine nil_ ?_ | refine stepY (y_move rfl) rfl ?_ | refine stepY (y_assign rfl) rfl ?_)
      refine call_ Try.func84 rfl rfl (hD1) rfl (by repeat (first | exact .refl _ | apply Les.cons | exact .nil)) rfl ?_
      repeat (first | refine seq_ ?_ | refine region_ ?_ | refine nil_ ?_ | refine stepY (y_move rfl) rfl ?_ | refine stepY (y_assign rfl) rfl ?_ | refine stepY (y_extract rfl rfl) rfl ?_)
      refine call_ Try.func84 rfl rfl (hD2) rfl (by repeat (first | exact .refl _ | apply Les.cons | exact .nil)) rfl ?_
      repeat (first | refine seq_ ?_ | refine region_ ?_ | refine nil_ ?_ | refine ret_ ?_ | refine cond_t rfl ?_ | refine guard_t rfl rfl rfl ?_ | refine stepY (y_move rfl) rfl ?_ | refine stepY (y_assign rfl) rfl ?_ | refine stepY (y_extract rfl rfl) rfl ?_ | refine stepY (y_len_si rfl) rfl ?_ | refine stepY (y_pick_f rfl rfl) rfl ?_ | refine stepY (y_build rfl rfl rfl) rfl ?_ | (first | refine stepY (y_cmpT rfl rfl rfl (by omega)) rfl ?_ | refine stepY (y_cmpF rfl rfl rfl (by omega)) rfl ?_) | refine stepE (e_store rfl rfl rfl rfl rfl rfl rfl) ?_)
      ((apply fin_r); (repeat (first | exact .nil | exact .tmp rfl | exact .agg rfl rfl rfl | apply ResL.cons)); (repeat (first | exact .refl _ | exact .nil _ _ | apply Le.ag | apply Le.tp | apply Les.cons | exact .nil)))
  · rw [if_neg (fun h => h1 h.1)]
    repeat (first | refine seq_ ?_ | refine region_ ?_ | refine nil_ ?_ | refine stepY (y_move rfl) rfl ?_ | refine stepY (y_assign rfl) rfl ?_ | refine stepE (e_alloc rfl rfl rfl) ?_)
    refine call_ Try.func83 rfl rfl (hc) rfl (by repeat (first | exact .refl _ | apply Les.cons | exact .nil)) rfl ?_
    repeat (first | refine seq_ ?_ | refine region_ ?_ | refine nil_ ?_ | refine stepY (y_move rfl) rfl ?_ | refine stepY (y_assign rfl) rfl ?_)
    refine call_ Try.func84 rfl rfl (hD1) rfl (by repeat (first | exact .refl _ | apply Les.cons | exact .nil)) rfl ?_
    repeat (first | refine seq_ ?_ | refine region_ ?_ | refine nil_ ?_ | refine stepY (y_move rfl) rfl ?_ | refine stepY (y_assign rfl) rfl ?_ | refine stepY (y_extract rfl rfl) rfl ?_)
    refine call_ Try.func84 rfl rfl (hD2) rfl (by repeat (first | exact .refl _ | apply Les.cons | exact .nil)) rfl ?_
    repeat (first | refine seq_ ?_ | refine region_ ?_ | refine nil_ ?_ | refine ret_ ?_ | refine cond_t rfl ?_ | refine guard_f rfl rfl rfl rfl ?_ | refine stepY (y_move rfl) rfl ?_ | refine stepY (y_assign rfl) rfl ?_ | refine stepY (y_extract rfl rfl) rfl ?_ | refine stepY (y_len_si rfl) rfl ?_ | refine stepY (y_pick_t rfl rfl) rfl ?_ | refine stepY (y_build rfl rfl rfl) rfl ?_ | refine stepY (y_cmpT rfl rfl rfl (by omega)) rfl ?_ | refine stepE (e_store rfl rfl rfl rfl rfl rfl rfl) ?_)
    ((apply fin_r); (repeat (first | exact .nil | exact .tmp rfl | exact .agg rfl rfl rfl | apply ResL.cons)); (repeat (first | exact .refl _ | exact .nil _ _ | apply Le.ag | apply Le.tp | apply Les.cons | exact .nil)))
theorem RFValid_c (p : Bool) (l : List Int) (q : Bool) (k : List Int) (hl : wf l) (hk : wf k) : Con Try.prog 69 [AF p l q k] (Bo (vldF p l q k)) := by
  have hv1 := RValid_c p l
  have hv2 := RValid_c q k
  cases h1 : vldB p l with
  | false =>
    rw [show vldF p l q k = false by simp [vldF, h1]]
    rw [h1] at hv1
    refine con_of Try.func69 rfl rfl rfl rfl rfl ?_
    repeat (first | refine seq_ ?_ | refine region_ ?_ | refine nil_ ?_ | refine stepY (y_assign rfl) rfl ?_ | refine stepY (y_loadA rfl rfl rfl) rfl ?_ | refine stepY (y_fieldAddr rfl) rfl ?_ | refine stepE (e_box rfl rfl rfl rfl rfl rfl) ?_)
    refine call_ Try.func66 rfl rfl (hv1) rfl (by repeat (first | exact .refl _ | apply Les.cons | exact .nil)) rfl ?_
    repeat (first | refine seq_ ?_ | refine region_ ?_ | refine nil_ ?_ | refine ret_ ?_ | refine cond_t rfl ?_ | refine guard_f rfl rfl rfl rfl ?_ | refine stepY (y_move rfl) rfl ?_ | refine stepY (y_assign rfl) rfl ?_ | refine stepY (y_not rfl) rfl ?_ | refine stepY (y_pick_t rfl rfl) rfl ?_)
    ((apply fin_r); (repeat (first | exact .nil | exact .tmp rfl | apply ResL.cons)); (repeat (exact .refl _)))
  | true =>
    rw [h1] at hv1
    cases h2 : vldB q k with
    | false =>
      rw [show vldF p l q k = false by simp [vldF, h2]]
      rw [h2] at hv2
      refine con_of Try.func69 rfl rfl rfl rfl rfl ?_
      repeat (first | refine seq_ ?_ | refine region_ ?_ | refine nil_ ?_ | refine stepY (y_assign rfl) rfl ?_ | refine stepY (y_loadA rfl rfl rfl) rfl ?_ | refine stepY (y_fieldAddr rfl) rfl ?_ | refine stepE (e_box rfl rfl rfl rfl rfl rfl) ?_)
      refine call_ Try.func66 rfl rfl (hv1) rfl (by repeat (first | exact .refl _ | apply Les.cons | exact .nil)) rfl ?_
      repeat (first | refine guard_t rfl rfl rfl ?_ | refine stepY (y_move rfl) rfl ?_ | refine stepY (y_loadA rfl rfl rfl) rfl ?_ | refine stepY (y_fieldAddr rfl) rfl ?_ | refine stepY (y_not rfl) rfl ?_)
      refine call_ Try.func66 rfl rfl (hv2) rfl (by repeat (first | exact .refl _ | apply Les.cons | exact .nil)) rfl ?_
      repeat (first | refine seq_ ?_ | refine region_ ?_ | refine nil_ ?_ | refine ret_ ?_ | refine cond_t rfl ?_ | refine guard_t rfl rfl rfl ?_ | refine guard_f rfl rfl rfl rfl ?_ | refine stepY (y_move rfl) rfl ?_ | refine stepY (y_assign rfl) rfl ?_ | refine stepY (y_not rfl) rfl ?_ | (first | refine stepY (y_pick_t rfl rfl) rfl ?_ | refine stepY (y_pick_f rfl rfl) rfl ?_))
      ((apply fin_r); (repeat (first | exact .nil | exact .tmp rfl | apply ResL.cons)); (repeat (exact .refl _)))
    | true =>
      rw [h2] at hv2
      cases q with
      | true =>
        rw [show vldF p l true k = false by simp [vldF]]
        refine con_of Try.func69 rfl rfl rfl rfl rfl ?_
        repeat (first | refine seq_ ?_ | refine region_ ?_ | refine nil_ ?_ | refine stepY (y_assign rfl) rfl ?_ | refine stepY (y_loadA rfl rfl rfl) rfl ?_ | refine stepY (y_fieldAddr rfl) rfl ?_ | refine stepE (e_box rfl rfl rfl rfl rfl rfl) ?_)
        refine call_ Try.func66 rfl rfl (hv1) rfl (by repeat (first | exact .refl _ | apply Les.cons | exact .nil)) rfl ?_
        repeat (first | refine guard_t rfl rfl rfl ?_ | refine stepY (y_move rfl) rfl ?_ | refine stepY (y_loadA rfl rfl rfl) rfl ?_ | refine stepY (y_fieldAddr rfl) rfl ?_ | refine stepY (y_not rfl) rfl ?_)
        refine call_ Try.func66 rfl rfl (hv2) rfl (by repeat (first | exact .refl _ | apply Les.cons | exact .nil)) rfl ?_
        repeat (first | refine seq_ ?_ | refine region_ ?_ | refine nil_ ?_ | refine ret_ ?_ | refine cond_t rfl ?_ | refine guard_t rfl rfl rfl ?_ | refine guard_f rfl rfl rfl rfl ?_ | refine stepY (y_move rfl) rfl ?_ | refine stepY (y_assign rfl) rfl ?_ | refine stepY (y_load1 rfl rfl rfl) rfl ?_ | refine stepY (y_fieldAddr rfl) rfl ?_ | refine stepY (y_not rfl) rfl ?_ | (first | refine stepY (y_pick_t rfl rfl) rfl ?_ | refine stepY (y_pick_f rfl rfl) rfl ?_))
        ((apply fin_r); (repeat (first | exact .nil | exact .tmp rfl | apply ResL.cons)); (repeat (exact .refl _)))
      | false =>
        by_cases h3 : k.length = 0
        · rw [show vldF p l false k = false by simp [vldF, h3]]
          refine con_of Try.func69 rfl rfl rfl rfl rfl ?_
          repeat (first | refine seq_ ?_ | refine region_ ?_ | refine nil_ ?_ | refine stepY (y_assign rfl) rfl ?_ | refine stepY (y_loadA rfl rfl rfl) rfl ?_ | refine stepY (y_fieldAddr rfl) rfl ?_ | refine stepE (e_box rfl rfl rfl rfl rfl rfl) ?_)
          refine call_ Try.func66 rfl rfl (hv1) rfl (by repeat (first | exact .refl _ | apply Les.cons | exact .nil)) rfl ?_
          repeat (first | refine guard_t rfl rfl rfl ?_ | refine stepY (y_move rfl) rfl ?_ | refine stepY (y_loadA rfl rfl rfl) rfl ?_ | refine stepY (y_fieldAddr rfl) rfl ?_ | refine stepY (y_not rfl) rfl ?_)
          refine call_ Try.func66 rfl rfl (hv2) rfl (by repeat (first | exact .refl _ | apply Les.cons | exact .nil)) rfl ?_
          repeat (first | refine seq_ ?_ | refine region_ ?_ | refine nil_ ?_ | refine ret_ ?_ | refine cond_t rfl ?_ | refine guard_t rfl rfl rfl ?_ | refine stepY (y_move rfl) rfl ?_ | refine stepY (y_assign rfl) rfl ?_ | refine stepY (y_load1 rfl rfl rfl) rfl ?_ | refine stepY (y_fieldAddr rfl) rfl ?_ | refine stepY (y_len_si rfl) rfl ?_ | refine stepY (y_not rfl) rfl ?_ | refine stepY (y_pick_f rfl rfl) rfl ?_ | refine stepY (y_cmpT rfl rfl rfl (by omega)) rfl ?_)
          ((apply fin_r); (repeat (first | exact .nil | exact .tmp rfl | apply ResL.cons)); (repeat (exact .refl _)))
        · have e1 := vld_limbs hl h1
          have e2 := vld_limbs hk h2
          generalize hm : val l = m at *
          generalize hn : val k = n at *
          subst e1 e2
          have hn0 : 0 < n := by
            rcases Nat.eq_zero_or_pos n with h | h
            · subst h; exact absurd rfl h3
            · exact h
          have hgc := common3_c m n (by have := vld_ln h1; omega) (by have := vld_ln h2; omega)
          have ho := one3_c (Nat.gcd m n)
          rw [show vldF p (limbs m) false (limbs n) = (Nat.gcd m n == 1) by simp only [vldF, h1, h2, val_limbs]; rw [decide_eq_true (by omega)]; simp]
          refine con_of Try.func69 rfl rfl rfl rfl rfl ?_
          repeat (first | refine seq_ ?_ | refine region_ ?_ | refine nil_ ?_ | refine stepY (y_assign rfl) rfl ?_ | refine stepY (y_loadA rfl rfl rfl) rfl ?_ | refine stepY (y_fieldAddr rfl) rfl ?_ | refine stepE (e_box rfl rfl rfl rfl rfl rfl) ?_)
          refine call_ Try.func66 rfl rfl (hv1) rfl (by repeat (first | exact .refl _ | apply Les.cons | exact .nil)) rfl ?_
          repeat (first | refine guard_t rfl rfl rfl ?_ | refine stepY (y_move rfl) rfl ?_ | refine stepY (y_loadA rfl rfl rfl) rfl ?_ | refine stepY (y_fieldAddr rfl) rfl ?_ | refine stepY (y_not rfl) rfl ?_)
          refine call_ Try.func66 rfl rfl (hv2) rfl (by repeat (first | exact .refl _ | apply Les.cons | exact .nil)) rfl ?_
          repeat (first | refine seq_ ?_ | refine region_ ?_ | refine nil_ ?_ | refine skip_ ?_ | refine cond_f rfl ?_ | refine guard_t rfl rfl rfl ?_ | refine stepY (y_move rfl) rfl ?_ | refine stepY (y_load1 rfl rfl rfl) rfl ?_ | refine stepY (y_fieldAddr rfl) rfl ?_ | refine stepY (y_len_si rfl) rfl ?_ | refine stepY (y_not rfl) rfl ?_ | refine stepY (y_pick_f rfl rfl) rfl ?_ | refine stepY (y_cmpF rfl rfl rfl (by omega)) rfl ?_)
          refine call_ Try.func83 rfl rfl (hgc) rfl (by repeat (first | exact .refl _ | apply Les.cons | exact .nil)) rfl ?_
          skip
          refine call_ Try.func86 rfl rfl (ho) rfl (by repeat (first | exact .refl _ | apply Les.cons | exact .nil)) rfl ?_
          repeat (first | refine nil_ ?_ | refine ret_ ?_ | refine stepY (y_assign rfl) rfl ?_)
          ((apply fin_r); (repeat (first | exact .nil | exact .tmp rfl | apply ResL.cons)); (repeat (exact .refl _)))
theorem RNew_e (p q : Bool) (l k : List Int) (h : (vldB p l && vldB q k) = false) : Con Try.prog 48 [AV p l, AV q k] (.tp [ZM, E_ 1]) := by
  refine con_of Try.func48 rfl rfl rfl rfl rfl ?_
  have hv1 := RValid_c p l
  have hv2 := RValid_c q k
  cases h1 : vldB p l with
  | false =>
    rw [h1] at hv1
    repeat (first | refine seq_ ?_ | refine region_ ?_ | refine nil_ ?_ | refine stepY (y_assign rfl) rfl ?_ | refine stepY (y_loadA rfl rfl rfl) rfl ?_ | refine stepE (e_box rfl rfl rfl rfl rfl rfl) ?_ | refine stepE (e_alloc rfl rfl rfl) ?_)
    refine call_ Try.func66 rfl rfl (hv1) rfl (by repeat (first | exact .refl _ | apply Les.cons | exact .nil)) rfl ?_
    repeat (first | refine seq_ ?_ | refine region_ ?_ | refine nil_ ?_ | refine ret_ ?_ | refine cond_t rfl ?_ | refine guard_f rfl rfl rfl rfl ?_ | refine stepY (y_move rfl) rfl ?_ | refine stepY (y_assign rfl) rfl ?_ | refine stepY (y_not rfl) rfl ?_ | refine stepY (y_pick_t rfl rfl) rfl ?_ | refine stepY (y_build rfl rfl rfl) rfl ?_ | refine stepE (e_store rfl rfl rfl rfl rfl rfl rfl) ?_)
    ((apply fin_r); (repeat (first | exact .nil | exact .tmp rfl | exact .agg rfl rfl rfl | apply ResL.cons)); (repeat (first | exact .refl _ | exact .nil _ _ | apply Le.ag | apply Le.tp | apply Les.cons | exact .nil)))
  | true =>
    rw [h1, Bool.true_and] at h
    rw [h1] at hv1
    rw [h] at hv2
    repeat (first | refine seq_ ?_ | refine region_ ?_ | refine nil_ ?_ | refine stepY (y_assign rfl) rfl ?_ | refine stepY (y_loadA rfl rfl rfl) rfl ?_ | refine stepE (e_box rfl rfl rfl rfl rfl rfl) ?_ | refine stepE (e_alloc rfl rfl rfl) ?_)
    refine call_ Try.func66 rfl rfl (hv1) rfl (by repeat (first | exact .refl _ | apply Les.cons | exact .nil)) rfl ?_
    repeat (first | refine guard_t rfl rfl rfl ?_ | refine stepY (y_move rfl) rfl ?_ | refine stepY (y_loadA rfl rfl rfl) rfl ?_ | refine stepY (y_not rfl) rfl ?_)
    refine call_ Try.func66 rfl rfl (hv2) rfl (by repeat (first | exact .refl _ | apply Les.cons | exact .nil)) rfl ?_
    repeat (first | refine seq_ ?_ | refine region_ ?_ | refine nil_ ?_ | refine ret_ ?_ | refine cond_t rfl ?_ | refine guard_t rfl rfl rfl ?_ | refine stepY (y_assign rfl) rfl ?_ | refine stepY (y_not rfl) rfl ?_ | refine stepY (y_pick_f rfl rfl) rfl ?_ | refine stepY (y_build rfl rfl rfl) rfl ?_ | refine stepE (e_store rfl rfl rfl rfl rfl rfl rfl) ?_)
    ((apply fin_r); (repeat (first | exact .nil | exact .tmp rfl | exact .agg rfl rfl rfl | apply ResL.cons)); (repeat (first | exact .refl _ | exact .nil _ _ | apply Le.ag | apply Le.tp | apply Les.cons | exact .nil)))
theorem RNew_z (p q : Bool) (l : List Int) (h1 : vldB p l = true) (h2 : vldB q [] = true) : Con Try.prog 48 [AV p l, AV q []] (.tp [ZM, E_ 12]) := by
  refine con_of Try.func48 rfl rfl rfl rfl rfl ?_
  have hv1 := RValid_c p l
  have hv2 := RValid_c q []
  rw [h1] at hv1
  rw [h2] at hv2
  repeat (first | refine seq_ ?_ | refine region_ ?_ | refine nil_ ?_ | refine stepY (y_assign rfl) rfl ?_ | refine stepY (y_loadA rfl rfl rfl) rfl ?_ | refine stepE (e_box rfl rfl rfl rfl rfl rfl) ?_ | refine stepE (e_alloc rfl rfl rfl) ?_)
  refine call_ Try.func66 rfl rfl (hv1) rfl (by repeat (first | exact .refl _ | apply Les.cons | exact .nil)) rfl ?_
  repeat (first | refine guard_t rfl rfl rfl ?_ | refine stepY (y_move rfl) rfl ?_ | refine stepY (y_loadA rfl rfl rfl) rfl ?_ | refine stepY (y_not rfl) rfl ?_)
  refine call_ Try.func66 rfl rfl (hv2) rfl (by repeat (first | exact .refl _ | apply Les.cons | exact .nil)) rfl ?_
  repeat (first | refine seq_ ?_ | refine region_ ?_ | refine nil_ ?_ | refine skip_ ?_ | refine ret_ ?_ | refine cond_t rfl ?_ | refine cond_f rfl ?_ | refine guard_t rfl rfl rfl ?_ | refine stepY (y_assign rfl) rfl ?_ | refine stepY (y_load1 rfl rfl rfl) rfl ?_ | refine stepY (y_fieldAddr rfl) rfl ?_ | refine stepY (y_len_si rfl) rfl ?_ | refine stepY (y_not rfl) rfl ?_ | refine stepY (y_pick_f rfl rfl) rfl ?_ | refine stepY (y_build rfl rfl rfl) rfl ?_ | refine stepY (y_bin rfl rfl rfl) rfl ?_ | refine stepE (e_store rfl rfl rfl rfl rfl rfl rfl) ?_)
  ((apply fin_r); (repeat (first | exact .nil | exact .tmp rfl | exact .agg rfl rfl rfl | apply ResL.cons)); (repeat (first | exact .refl _ | exact .nil _ _ | apply Le.ag | apply Le.tp | apply Les.cons | exact .nil)))
theorem RNew_s (p q : Bool) (m n : Nat) (h1 : vldB p (limbs m) = true) (h2 : vldB q (limbs n) = true) (hn : 0 < n) : Con Try.prog 48 [SV p m, SV q n] (resM (mkRat (sgn (p != q) m) n)) := by
  have hv1 := RValid_c p (limbs m)
  have hv2 := RValid_c q (limbs n)
  rw [h1] at hv1
  rw [h2] at hv2
  have hb1 := vld_ln h1
  have hb2 := vld_ln h2
  have hr := made3_c (p != q) m n hn (by omega) (by omega)
  have hln : ((limbs n).length : Int) = ln n := by rw [limbs_length]
  have hpn := ln_pos.2 hn
  have hb : decide (p ≠ q) = (p != q) := by cases p <;> cases q <;> rfl
  generalize mkRat (sgn (p != q) m) n = x at *
  by_cases hok : okQ x
  · rw [resM_ok hok] at *
    refine con_of Try.func48 rfl rfl rfl rfl rfl ?_
    repeat (first | refine seq_ ?_ | refine region_ ?_ | refine nil_ ?_ | refine stepY (y_assign rfl) rfl ?_ | refine stepY (y_loadA rfl rfl rfl) rfl ?_ | refine stepE (e_box rfl rfl rfl rfl rfl rfl) ?_ | refine stepE (e_alloc rfl rfl rfl) ?_)
    refine call_ Try.func66 rfl rfl (hv1) rfl (by repeat (first | exact .refl _ | apply Les.cons | exact .nil)) rfl ?_
    repeat (first | refine guard_t rfl rfl rfl ?_ | refine stepY (y_move rfl) rfl ?_ | refine stepY (y_loadA rfl rfl rfl) rfl ?_ | refine stepY (y_not rfl) rfl ?_)
    refine call_ Try.func66 rfl rfl (hv2) rfl (by repeat (first | exact .refl _ | apply Les.cons | exact .nil)) rfl ?_
    repeat (first | refine seq_ ?_ | refine region_ ?_ | refine nil_ ?_ | refine skip_ ?_ | refine cond_f rfl ?_ | refine guard_t rfl rfl rfl ?_ | refine stepY (y_load1 rfl rfl rfl) rfl ?_ | refine stepY (y_fieldAddr rfl) rfl ?_ | refine stepY (y_len_si rfl) rfl ?_ | refine stepY (y_not rfl) rfl ?_ | refine stepY (y_pick_f rfl rfl) rfl ?_ | refine stepY (y_cmpF rfl rfl rfl (by omega)) rfl ?_ | refine stepY (y_neb rfl rfl) rfl ?_)
    rw [hb]
    refine call_ Try.func67 rfl rfl (hr) rfl (by repeat (first | exact .refl _ | apply Les.cons | exact .nil)) rfl ?_
    repeat (first | refine nil_ ?_ | refine ret_ ?_ | refine stepY (y_assign rfl) rfl ?_ | refine stepY (y_extract rfl rfl) rfl ?_ | refine stepE (e_store rfl rfl rfl rfl rfl rfl rfl) ?_)
    ((apply fin_r); (repeat (first | exact .nil | exact .tmp rfl | exact .agg rfl rfl rfl | apply ResL.cons)); (repeat (exact .refl _)))
  · rw [resM_no hok] at *
    refine con_of Try.func48 rfl rfl rfl rfl rfl ?_
    repeat (first | refine seq_ ?_ | refine region_ ?_ | refine nil_ ?_ | refine stepY (y_assign rfl) rfl ?_ | refine stepY (y_loadA rfl rfl rfl) rfl ?_ | refine stepE (e_box rfl rfl rfl rfl rfl rfl) ?_ | refine stepE (e_alloc rfl rfl rfl) ?_)
    refine call_ Try.func66 rfl rfl (hv1) rfl (by repeat (first | exact .refl _ | apply Les.cons | exact .nil)) rfl ?_
    repeat (first | refine guard_t rfl rfl rfl ?_ | refine stepY (y_move rfl) rfl ?_ | refine stepY (y_loadA rfl rfl rfl) rfl ?_ | refine stepY (y_not rfl) rfl ?_)
    refine call_ Try.func66 rfl rfl (hv2) rfl (by repeat (first | exact .refl _ | apply Les.cons | exact .nil)) rfl ?_
    repeat (first | refine seq_ ?_ | refine region_ ?_ | refine nil_ ?_ | refine skip_ ?_ | refine cond_f rfl ?_ | refine guard_t rfl rfl rfl ?_ | refine stepY (y_load1 rfl rfl rfl) rfl ?_ | refine stepY (y_fieldAddr rfl) rfl ?_ | refine stepY (y_len_si rfl) rfl ?_ | refine stepY (y_not rfl) rfl ?_ | refine stepY (y_pick_f rfl rfl) rfl ?_ | refine stepY (y_cmpF rfl rfl rfl (by omega)) rfl ?_ | refine stepY (y_neb rfl rfl) rfl ?_)
    rw [hb]
    refine call_ Try.func67 rfl rfl (hr) rfl (by repeat (first | exact .refl _ | apply Les.cons | exact .nil)) rfl ?_
    repeat (first | refine nil_ ?_ | refine ret_ ?_ | refine stepY (y_assign rfl) rfl ?_ | refine stepY (y_extract rfl rfl) rfl ?_ | refine stepE (e_store rfl rfl rfl rfl rfl rfl rfl) ?_)
    ((apply fin_r); (repeat (first | exact .nil | exact .tmp rfl | exact .agg rfl rfl rfl | apply ResL.cons)); (repeat (exact .refl _)))
theorem sum3_c (p q : Bool) (m n : Nat) (hm : ln m < 4294967290) (hn : ln n < 4294967290) : Con Try.prog 88 [Bo p, M m, Bo q, M n] (.tp [Bo (addN p q m n), M (addA p q m n)]) := by
  refine con_of Try.func88 rfl rfl rfl rfl rfl ?_
  by_cases h : p = q
  · have hs := plus3_c m n hm hn
    rw [show addN p q m n = p by simp [addN, h], show addA p q m n = m + n by simp [addA, h]]
    have hd : decide (p = q) = true := decide_eq_true h
    repeat (first | refine seq_ ?_ | refine region_ ?_ | refine nil_ ?_ | refine stepY (y_move rfl) rfl ?_ | refine stepY (y_assign rfl) rfl ?_ | refine stepY (y_eqb rfl rfl) rfl ?_)
    rw [hd]
    repeat (first | refine seq_ ?_ | refine region_ ?_ | refine cond_t rfl ?_ | refine stepY (y_move rfl) rfl ?_)
    refine call_ Try.func106 rfl rfl (hs) rfl (by repeat (first | exact .refl _ | apply Les.cons | exact .nil)) rfl ?_
    repeat (first | refine nil_ ?_ | refine ret_ ?_ | refine stepY (y_assign rfl) rfl ?_)
    ((apply fin_r); (repeat (first | exact .nil | exact .tmp rfl | apply ResL.cons)); (repeat (exact .refl _)))
  · have hd : decide (p = q) = false := decide_eq_false h
    have hc := compare3_c m n
    by_cases h2 : n ≤ m
    · rw [show addN p q m n = p by simp [addN, h, h2], show addA p q m n = m - n by simp [addA, h, h2]]
      have h3 := sg_ge.2 h2
      have hf := minus3_c m n hm h2
      repeat (first | refine seq_ ?_ | refine region_ ?_ | refine nil_ ?_ | refine stepY (y_move rfl) rfl ?_ | refine stepY (y_assign rfl) rfl ?_ | refine stepY (y_eqb rfl rfl) rfl ?_)
      rw [hd]
      repeat (first | refine seq_ ?_ | refine region_ ?_ | refine skip_ ?_ | refine cond_f rfl ?_ | refine stepY (y_move rfl) rfl ?_)
      refine call_ Try.func72 rfl rfl (hc) rfl (by repeat (first | exact .refl _ | apply Les.cons | exact .nil)) rfl ?_
      repeat (first | refine seq_ ?_ | refine region_ ?_ | refine nil_ ?_ | refine cond_t rfl ?_ | refine stepY (y_move rfl) rfl ?_ | refine stepY (y_cmpT rfl rfl rfl (by omega)) rfl ?_)
      refine call_ Try.func104 rfl rfl (hf) rfl (by repeat (first | exact .refl _ | apply Les.cons | exact .nil)) rfl ?_
      repeat (first | refine nil_ ?_ | refine ret_ ?_ | refine stepY (y_assign rfl) rfl ?_)
      ((apply fin_r); (repeat (first | exact .nil | exact .tmp rfl | apply ResL.cons)); (repeat (exact .refl _)))
    · rw [show addN p q m n = q by simp [addN, h, h2], show addA p q m n = n - m by simp [addA, h, h2]]
      have h3 : ¬ 0 ≤ sg m n := fun h => h2 (sg_ge.1 h)
      have hf := minus3_c n m hn (by omega)
      repeat (first | refine seq_ ?_ | refine region_ ?_ | refine nil_ ?_ | refine stepY (y_move rfl) rfl ?_ | refine stepY (y_assign rfl) rfl ?_ | refine stepY (y_eqb rfl rfl) rfl ?_)
      rw [hd]
      repeat (first | refine seq_ ?_ | refine region_ ?_ | refine skip_ ?_ | refine cond_f rfl ?_ | refine stepY (y_move rfl) rfl ?_)
      refine call_ Try.func72 rfl rfl (hc) rfl (by repeat (first | exact .refl _ | apply Les.cons | exact .nil)) rfl ?_
      repeat (first | refine seq_ ?_ | refine region_ ?_ | refine nil_ ?_ | refine skip_ ?_ | refine cond_f rfl ?_ | refine stepY (y_move rfl) rfl ?_ | refine stepY (y_cmpF rfl rfl rfl (by omega)) rfl ?_)
      refine call_ Try.func104 rfl rfl (hf) rfl (by repeat (first | exact .refl _ | apply Les.cons | exact .nil)) rfl ?_
      repeat (first | refine nil_ ?_ | refine ret_ ?_ | refine stepY (y_assign rfl) rfl ?_)
      ((apply fin_r); (repeat (first | exact .nil | exact .tmp rfl | apply ResL.cons)); (repeat (exact .refl _)))
theorem SameInt_m (p : Bool) (m : Nat) : Con Try.prog 54 [SV p m, SV p m] (Bo true) := by
  refine con_of Try.func54 rfl rfl rfl rfl rfl ?_
  refine len_Ca (i := 0) rfl fun hlim => ?_
  have hc := compare3_c m m
  rw [sg_eq] at hc
  cases p
  · repeat (first | refine seq_ ?_ | refine region_ ?_ | refine nil_ ?_ | refine guard_t rfl rfl rfl ?_ | refine stepY (y_move rfl) rfl ?_ | refine stepY (y_assign rfl) rfl ?_ | refine stepY (y_load1 rfl rfl rfl) rfl ?_ | refine stepY (y_fieldAddr rfl) rfl ?_ | refine stepY (y_len_si rfl) rfl ?_ | refine stepY (y_pick_t rfl rfl) rfl ?_ | (first | refine stepY (y_cmpT rfl rfl rfl (by omega)) rfl ?_ | refine stepY (y_eqb rfl rfl) rfl ?_) | refine stepE (e_box rfl rfl rfl rfl rfl rfl) ?_)
    refine call_ Try.func72 rfl rfl (hc) rfl (by repeat (first | exact .refl _ | apply Les.cons | exact .nil)) rfl ?_
    repeat (first | refine nil_ ?_ | refine ret_ ?_ | refine guard_t rfl rfl rfl ?_ | refine stepY (y_assign rfl) rfl ?_ | refine stepY (y_pick_t rfl rfl) rfl ?_ | refine stepY (y_cmpT rfl rfl rfl (by omega)) rfl ?_)
    ((apply fin_r); (repeat (first | exact .nil | exact .tmp rfl | apply ResL.cons)); (repeat (exact .refl _)))
  · repeat (first | refine seq_ ?_ | refine region_ ?_ | refine nil_ ?_ | refine guard_t rfl rfl rfl ?_ | refine stepY (y_move rfl) rfl ?_ | refine stepY (y_assign rfl) rfl ?_ | refine stepY (y_load1 rfl rfl rfl) rfl ?_ | refine stepY (y_fieldAddr rfl) rfl ?_ | refine stepY (y_len_si rfl) rfl ?_ | refine stepY (y_pick_t rfl rfl) rfl ?_ | (first | refine stepY (y_cmpT rfl rfl rfl (by omega)) rfl ?_ | refine stepY (y_eqb rfl rfl) rfl ?_) | refine stepE (e_box rfl rfl rfl rfl rfl rfl) ?_)
    refine call_ Try.func72 rfl rfl (hc) rfl (by repeat (first | exact .refl _ | apply Les.cons | exact .nil)) rfl ?_
    repeat (first | refine nil_ ?_ | refine ret_ ?_ | refine guard_t rfl rfl rfl ?_ | refine stepY (y_assign rfl) rfl ?_ | refine stepY (y_pick_t rfl rfl) rfl ?_ | refine stepY (y_cmpT rfl rfl rfl (by omega)) rfl ?_)
    ((apply fin_r); (repeat (first | exact .nil | exact .tmp rfl | apply ResL.cons)); (repeat (exact .refl _)))
theorem Same_m (p q : Bool) (m d : Nat) : Con Try.prog 31 [.ag [Bo p, M m, Bo q, M d], .ag [Bo p, M m, Bo q, M d]] (Bo true) := by
  refine con_of Try.func31 rfl rfl rfl rfl rfl ?_
  have h1 := SameInt_m p m
  have h2 := SameInt_m q d
  repeat (first | refine seq_ ?_ | refine region_ ?_ | refine nil_ ?_ | refine stepY (y_assign rfl) rfl ?_ | refine stepY (y_loadA rfl rfl rfl) rfl ?_ | refine stepY (y_fieldAddr rfl) rfl ?_ | refine stepE (e_box rfl rfl rfl rfl rfl rfl) ?_)
  refine call_ Try.func54 rfl rfl (h1) rfl (by repeat (first | exact .refl _ | apply Les.cons | exact .nil)) rfl ?_
  repeat (first | refine guard_t rfl rfl rfl ?_ | refine stepY (y_move rfl) rfl ?_ | refine stepY (y_loadA rfl rfl rfl) rfl ?_ | refine stepY (y_fieldAddr rfl) rfl ?_)
  refine call_ Try.func54 rfl rfl (h2) rfl (by repeat (first | exact .refl _ | apply Les.cons | exact .nil)) rfl ?_
  repeat (first | refine nil_ ?_ | refine ret_ ?_ | refine stepY (y_assign rfl) rfl ?_ | refine stepY (y_pick_t rfl rfl) rfl ?_)
  ((apply fin_r); (repeat (first | exact .nil | exact .tmp rfl | apply ResL.cons)); (repeat (exact .refl _)))
end Go.Av

set_option maxHeartbeats 8000000
set_option exponentiation.threshold 100000
set_option maxRecDepth 100000
set_option linter.unusedVariables false
set_option linter.unusedSimpArgs false
namespace Go.Av
open Go Go.Proofs
/-! Words of the laws on fractions -/
abbrev Q_ (n d : Int) : Rat := Rat.divInt n d
theorem okQ_div (n d : Int) (hn : -9223372036854775808 ≤ n ∧ n ≤ 9223372036854775807) (hd : -9223372036854775808 ≤ d ∧ d ≤ 9223372036854775807) (h0 : d ≠ 0) : okQ (Rat.divInt n d) := by
  rw [← divInt_sgn n d h0]
  have hp : 0 < d.natAbs := by omega
  have h1 := mkQ_num (decide (n < 0) != decide (d < 0)) n.natAbs hp
  have h2 := mkQ_den (decide (n < 0) != decide (d < 0)) n.natAbs hp
  refine ⟨?_, ?_⟩
  · rw [h1, sgn_abs]
    have := ln_int hn
    exact Nat.le_trans (ln_mono (Nat.div_le_self _ _)) (by omega)
  · rw [h2]
    have := ln_int hd
    exact Nat.le_trans (ln_mono (Nat.div_le_self _ _)) (by omega)
def ofM (n d : Int) : PV := if d = 0 then .tp [ZM, E_ 12] else resM (Rat.divInt n d)
theorem ROf_c (n d : Int) (hn : -9223372036854775808 ≤ n ∧ n ≤ 9223372036854775807) (hd : -9223372036854775808 ≤ d ∧ d ≤ 9223372036854775807) : Con Try.prog 30 [I n, I d] (ofM n d) := by
  have f1 := RFromInt_c n hn
  have f2 := RFromInt_c d hd
  have l1 := ln_int hn
  have l2 := ln_int hd
  unfold ofM
  split
  · next h0 =>
    have hN := RNew_z (decide (n < 0)) (decide (d < 0)) (limbs n.natAbs) (vld_iv (by omega)) (by rw [h0]; rfl)
    subst h0
    refine con_of Try.func30 rfl rfl rfl rfl rfl ?_
    repeat (first | refine seq_ ?_ | refine region_ ?_ | refine nil_ ?_ | refine stepY (y_move rfl) rfl ?_ | refine stepY (y_assign rfl) rfl ?_ | refine stepE (e_alloc rfl rfl rfl) ?_)
    refine call_ Try.func49 rfl rfl (f1) rfl (by repeat (first | exact .refl _ | apply Les.cons | exact .nil)) rfl ?_
    repeat (refine stepY (y_move rfl) rfl ?_)
    refine call_ Try.func49 rfl rfl (f2) rfl (by repeat (first | exact .refl _ | apply Les.cons | exact .nil)) rfl ?_
    skip
    refine call_ Try.func48 rfl rfl (hN) rfl (by repeat (first | exact .refl _ | exact .tag _ _ | apply Le.ag | apply Les.cons | exact .nil)) rfl ?_
    repeat (first | refine nil_ ?_ | refine ret_ ?_ | refine stepY (y_assign rfl) rfl ?_ | refine stepY (y_extract rfl rfl) rfl ?_ | refine stepE (e_store rfl rfl rfl rfl rfl rfl rfl) ?_)
    ((apply fin_r); (repeat (first | exact .nil | exact .tmp rfl | exact .agg rfl rfl rfl | apply ResL.cons)); (repeat (exact .refl _)))
  · next h0 =>
    have hN := RNew_s (decide (n < 0)) (decide (d < 0)) n.natAbs d.natAbs (vld_iv (by omega)) (vld_iv (by omega)) (by omega)
    rw [divInt_sgn n d h0] at hN
    generalize Rat.divInt n d = x at *
    by_cases hok : okQ x
    · rw [resM_ok hok] at *
      refine con_of Try.func30 rfl rfl rfl rfl rfl ?_
      repeat (first | refine seq_ ?_ | refine region_ ?_ | refine nil_ ?_ | refine stepY (y_move rfl) rfl ?_ | refine stepY (y_assign rfl) rfl ?_ | refine stepE (e_alloc rfl rfl rfl) ?_)
      refine call_ Try.func49 rfl rfl (f1) rfl (by repeat (first | exact .refl _ | apply Les.cons | exact .nil)) rfl ?_
      repeat (refine stepY (y_move rfl) rfl ?_)
      refine call_ Try.func49 rfl rfl (f2) rfl (by repeat (first | exact .refl _ | apply Les.cons | exact .nil)) rfl ?_
      skip
      refine call_ Try.func48 rfl rfl (hN) rfl (by repeat (first | exact .refl _ | exact .tag _ _ | apply Le.ag | apply Les.cons | exact .nil)) rfl ?_
      repeat (first | refine nil_ ?_ | refine ret_ ?_ | refine stepY (y_assign rfl) rfl ?_ | refine stepY (y_extract rfl rfl) rfl ?_ | refine stepE (e_store rfl rfl rfl rfl rfl rfl rfl) ?_)
      ((apply fin_r); (repeat (first | exact .nil | exact .tmp rfl | exact .agg rfl rfl rfl | apply ResL.cons)); (repeat (exact .refl _)))
    · rw [resM_no hok] at *
      refine con_of Try.func30 rfl rfl rfl rfl rfl ?_
      repeat (first | refine seq_ ?_ | refine region_ ?_ | refine nil_ ?_ | refine stepY (y_move rfl) rfl ?_ | refine stepY (y_assign rfl) rfl ?_ | refine stepE (e_alloc rfl rfl rfl) ?_)
      refine call_ Try.func49 rfl rfl (f1) rfl (by repeat (first | exact .refl _ | apply Les.cons | exact .nil)) rfl ?_
      repeat (refine stepY (y_move rfl) rfl ?_)
      refine call_ Try.func49 rfl rfl (f2) rfl (by repeat (first | exact .refl _ | apply Les.cons | exact .nil)) rfl ?_
      skip
      refine call_ Try.func48 rfl rfl (hN) rfl (by repeat (first | exact .refl _ | exact .tag _ _ | apply Le.ag | apply Les.cons | exact .nil)) rfl ?_
      repeat (first | refine nil_ ?_ | refine ret_ ?_ | refine stepY (y_assign rfl) rfl ?_ | refine stepY (y_extract rfl rfl) rfl ?_ | refine stepE (e_store rfl rfl rfl rfl rfl rfl rfl) ?_)
      ((apply fin_r); (repeat (first | exact .nil | exact .tmp rfl | exact .agg rfl rfl rfl | apply ResL.cons)); (repeat (exact .refl _)))
end Go.Av

set_option maxHeartbeats 8000000
set_option exponentiation.threshold 100000
set_option maxRecDepth 100000
set_option linter.unusedVariables false
set_option linter.unusedSimpArgs false
namespace Go.Av
open Go Go.Proofs

open Go.RowKit
/-! alive: closed values -/
theorem a1 : thR (0, 1) (2, 5) = ((2, -1, -1), 0) := by decide +kernel
theorem a2 : hlR [(0, 0), (2, 0), (1, 1), (2, 2), (0, 2)] = ([(0, 0), (2, 0), (2, 2), (0, 2)], 0) := by decide +kernel
theorem a3 : arR [(0, 0), (2, 0), (2, 2), (0, 2)] = (8, 0) := by decide +kernel
theorem a4 : orR (0, 9) (0, 0) (9, 0) = (((0, 0), (9, 0), (0, 9)), 0) := by decide +kernel
theorem a5 : crR (0, 0) (1, 0) (0, 1) = (1, 0) := by decide +kernel
theorem a6 : ovR 0 0 5 5 3 4 9 9 = ((3, 4, 2, 1), true) := by decide +kernel
theorem a7 : meetR (2, 0, 0) (0, 3, 1) = .tp [fpQ 0 (Rat.divInt 1 3), E_ 0] := by
  unfold meetR
  rw [if_neg (by decide), if_neg (by decide)]
  have e1 : Rat.divInt (detX (2, 0, 0) (0, 3, 1)) (detD (2, 0, 0) (0, 3, 1)) = 0 := by decide +kernel
  have e2 : Rat.divInt (detY (2, 0, 0) (0, 3, 1)) (detD (2, 0, 0) (0, 3, 1)) = Rat.divInt 1 3 := by decide +kernel
  rw [e1, e2]
end Go.Av

set_option maxHeartbeats 8000000
set_option exponentiation.threshold 100000
set_option maxRecDepth 100000
set_option linter.unusedVariables false
set_option linter.unusedSimpArgs false
namespace Go.Av
open Go Go.Proofs

open Go.RowKit
theorem alive_c : Con Try.prog 9 [] (Bo true) := by
  have hT := Through_c (0, 1) (2, 5)
  rw [a1] at hT
  have hH := Hull_c [(0, 0), (2, 0), (1, 1), (2, 2), (0, 2)]
  rw [a2] at hH
  have hA := Area2_c [(0, 0), (2, 0), (2, 2), (0, 2)]
  rw [a3] at hA
  have hO := Order_c (0, 9) (0, 0) (9, 0)
  rw [a4] at hO
  have hM := Meet_c (2, 0, 0) (0, 3, 1) (by decide) (by decide)
  rw [a7] at hM
  have hC := Cross_c (0, 0) (1, 0) (0, 1)
  rw [a5] at hC
  have hV := Overlap_c 0 0 5 5 3 4 9 9
  rw [a6] at hV
  have hF := ROf_c 1 3 (by omega) (by omega)
  unfold ofM at hF
  rw [if_neg (by omega), resM_ok (okQ_div 1 3 (by omega) (by omega) (by omega))] at hF
  have hP := Points_c [(0, 0), (2, 0), (2, 2), (0, 2)] [(0, 0), (2, 0), (2, 2), (0, 2)]
  rw [decide_eq_true rfl] at hP
  have hS := Same_m (decide ((Rat.divInt 1 3).num < 0)) false (Rat.divInt 1 3).num.natAbs (Rat.divInt 1 3).den
  have q1 : eqI [2, -1, -1] [2, -1, -1] = true := rfl
  have q2 : eqI [0, 0, 9, 0, 0, 9] [0, 0, 9, 0, 0, 9] = true := rfl
  have q3 : eqI [3, 4, 2, 1] [3, 4, 2, 1] = true := rfl
  generalize Rat.divInt 1 3 = x at *
  dsimp only at hT hH hA hO hC hV
  refine con_of Try.func9 rfl rfl rfl rfl rfl ?_
  repeat (first | refine seq_ ?_ | refine region_ ?_ | refine nil_ ?_ | refine stepY (y_assign rfl) rfl ?_ | refine stepY (y_build rfl rfl rfl) rfl ?_)
  refine call_ Try.func15 rfl rfl (hT) rfl (by repeat (first | exact .refl _ | apply Les.cons | exact .nil)) rfl ?_
  repeat (first | refine seq_ ?_ | refine region_ ?_ | refine nil_ ?_ | refine stepY (y_move rfl) rfl ?_ | refine stepY (y_assign rfl) rfl ?_ | refine stepY (y_extract rfl rfl) rfl ?_ | refine stepY (y_build rfl rfl rfl) rfl ?_ | refine stepE (e_alloc rfl rfl rfl) ?_ | refine stepE (e_store rfl rfl rfl rfl rfl rfl rfl) ?_ | refine stepE (e_bs_vs rfl rfl rfl rfl rfl rfl) ?_)
  refine seal_Ls (i := 29) (h := 29) rfl rfl rfl rfl ?_
  refine call_ Try.func10 rfl rfl (hH) rfl (by repeat (first | exact .tags _ _ | apply Les.cons | exact .nil)) rfl ?_
  repeat (first | refine seq_ ?_ | refine region_ ?_ | refine nil_ ?_ | refine stepY (y_move rfl) rfl ?_ | refine stepY (y_assign rfl) rfl ?_ | refine stepY (y_extract rfl rfl) rfl ?_)
  refine call_ Try.func20 rfl rfl (hA) rfl (by repeat (first | exact .tags _ _ | apply Les.cons | exact .nil)) rfl ?_
  repeat (first | refine seq_ ?_ | refine region_ ?_ | refine nil_ ?_ | refine stepY (y_move rfl) rfl ?_ | refine stepY (y_assign rfl) rfl ?_ | refine stepY (y_extract rfl rfl) rfl ?_ | refine stepY (y_build rfl rfl rfl) rfl ?_)
  refine call_ Try.func17 rfl rfl (hO) rfl (by repeat (first | exact .refl _ | apply Les.cons | exact .nil)) rfl ?_
  repeat (first | refine seq_ ?_ | refine region_ ?_ | refine nil_ ?_ | refine stepY (y_move rfl) rfl ?_ | refine stepY (y_assign rfl) rfl ?_ | refine stepY (y_extract rfl rfl) rfl ?_ | refine stepY (y_build rfl rfl rfl) rfl ?_ | refine stepE (e_alloc rfl rfl rfl) ?_ | refine stepE (e_store rfl rfl rfl rfl rfl rfl rfl) ?_)
  refine call_ Try.func22 rfl rfl (hM) rfl (by repeat (first | exact .refl _ | apply Les.cons | exact .nil)) rfl ?_
  repeat (first | refine seq_ ?_ | refine region_ ?_ | refine nil_ ?_ | refine stepY (y_move rfl) rfl ?_ | refine stepY (y_assign rfl) rfl ?_ | refine stepY (y_extract rfl rfl) rfl ?_ | refine stepY (y_build rfl rfl rfl) rfl ?_ | refine stepE (e_alloc rfl rfl rfl) ?_ | refine stepE (e_store rfl rfl rfl rfl rfl rfl rfl) ?_)
  refine call_ Try.func12 rfl rfl (hC) rfl (by repeat (first | exact .refl _ | apply Les.cons | exact .nil)) rfl ?_
  repeat (first | refine seq_ ?_ | refine region_ ?_ | refine nil_ ?_ | refine stepY (y_move rfl) rfl ?_ | refine stepY (y_assign rfl) rfl ?_ | refine stepY (y_extract rfl rfl) rfl ?_ | refine stepY (y_build rfl rfl rfl) rfl ?_)
  refine call_ Try.func24 rfl rfl (hV) rfl (by repeat (first | exact .refl _ | apply Les.cons | exact .nil)) rfl ?_
  repeat (first | refine seq_ ?_ | refine region_ ?_ | refine nil_ ?_ | refine skip_ ?_ | refine cond_f rfl ?_ | refine guard_t rfl rfl rfl ?_ | refine stepY (y_move rfl) rfl ?_ | refine stepY (y_assign rfl) rfl ?_ | refine stepY (y_extract rfl rfl) rfl ?_ | refine stepY (y_not rfl) rfl ?_ | refine stepY (y_pick_f rfl rfl) rfl ?_ | refine stepY (y_cmpF rfl rfl rfl (by omega)) rfl ?_ | refine stepE (e_alloc rfl rfl rfl) ?_ | refine stepE (e_store rfl rfl rfl rfl rfl rfl rfl) ?_)
  refine call_ Try.func30 rfl rfl (hF) rfl (by repeat (first | exact .refl _ | apply Les.cons | exact .nil)) rfl ?_
  repeat (first | refine seq_ ?_ | refine region_ ?_ | refine nil_ ?_ | refine guard_t rfl rfl rfl ?_ | refine stepY (y_move rfl) rfl ?_ | refine stepY (y_assign rfl) rfl ?_ | refine stepY (y_loadA rfl rfl rfl) rfl ?_ | refine stepY (y_extract rfl rfl) rfl ?_ | refine stepY (y_build rfl rfl rfl) rfl ?_ | refine stepY (y_eqI rfl rfl rfl rfl rfl rfl (by assumption)) rfl ?_ | refine stepE (e_alloc rfl rfl rfl) ?_ | refine stepE (e_store rfl rfl rfl rfl rfl rfl rfl) ?_ | refine stepE (e_bs_vs rfl rfl rfl rfl rfl rfl) ?_)
  refine seal_Ls (i := 103) (h := 103) rfl rfl rfl rfl ?_
  refine call_ Try.func11 rfl rfl (hP) rfl (by repeat (first | exact .tags _ _ | apply Les.cons | exact .nil)) rfl ?_
  repeat (first | refine guard_t rfl rfl rfl ?_ | refine stepY (y_move rfl) rfl ?_ | (first | refine stepY (y_load1 rfl rfl rfl) rfl ?_ | refine stepY (y_loadA rfl rfl rfl) rfl ?_) | refine stepY (y_fieldAddr rfl) rfl ?_ | refine stepY (y_len_si rfl) rfl ?_ | refine stepY (y_pick_t rfl rfl) rfl ?_ | (first | refine stepY (y_build rfl rfl rfl) rfl ?_ | refine stepY (y_build_arrb rfl rfl rfl rfl) rfl ?_) | (first | refine stepY (y_cmpT rfl rfl rfl (by omega)) rfl ?_ | refine stepY (y_eqI rfl rfl rfl rfl rfl rfl (by assumption)) rfl ?_) | refine stepY (y_bin rfl rfl rfl) rfl ?_)
  refine call_ Try.func31 rfl rfl (hS) rfl (by repeat (first | exact .refl _ | exact .tag _ _ | apply Le.ag | apply Les.cons | exact .nil)) rfl ?_
  repeat (first | refine nil_ ?_ | refine ret_ ?_ | refine guard_t rfl rfl rfl ?_ | refine stepY (y_move rfl) rfl ?_ | refine stepY (y_assign rfl) rfl ?_ | refine stepY (y_loadA rfl rfl rfl) rfl ?_ | refine stepY (y_pick_t rfl rfl) rfl ?_ | refine stepY (y_build rfl rfl rfl) rfl ?_ | (first | refine stepY (y_cmpT rfl rfl rfl (by omega)) rfl ?_ | refine stepY (y_eqI rfl rfl rfl rfl rfl rfl (by assumption)) rfl ?_))
  ((apply fin_r); (repeat (first | exact .nil | exact .tmp rfl | apply ResL.cons)); (repeat (exact .refl _)))
end Go.Av

set_option maxRecDepth 100000
set_option linter.unusedVariables false
set_option linter.unusedSimpArgs false
/-! What a row says of an argument, as an abstract value. -/
namespace Go.Av
open Go Go.Proofs Go.ChangeShapes Go.WideShapes Go.ChangeAt Go.RowKit Go.Joins
section
variable {H : Type} {enc : TypeId × Value → H} {W : World} {base : Nat}
def Wide (k : IntKind) (l : List Int) : Prop := ∀ n ∈ l, (Lit.int k n).wf = true
theorem ints_rel {P : Program} {t e : TypeId} {k : IntKind} {v : Value} {fuel : Nat} {x : DataW H × List MemPlace} (ht : P.underlying t = some (.slice e)) (he : P.underlying e = some (.int k)) (hc : P.cellsOf e = 1) (hB : 0 < P.bytesOf e)
    (h : DataW.trod enc P W 0 (fun _ => true) true fuel t [v] = some x) (hb : ∀ n ∈ x.1.weights P t, n ≤ reachBytes) : ∃ l, Wide k l ∧ Rel W (fun _ b => b < W.heap.size ∧ True) (.si false k l) v := by
  rcases open_ints ht he hc h with ⟨hcs, hx⟩ | ⟨a, len, cap, zs, hcs, _, hl, hm, hz, hx, hcell, hw⟩
  · simp at hcs
    subst hcs
    refine ⟨[], by simp [Wide], ?_⟩
    simp only [Rel]
    exact ⟨none, 0, rfl, by simp, by simp [maxLen], by simp [lim], fun h => by simp at h⟩
  · simp at hcs
    subst hcs
    simp only [if_true] at hz
    have hlen : (zs.take len).length = len := by rw [List.length_take]; omega
    refine ⟨zs.take len, fun n hn => hw n (List.mem_of_mem_take hn), ?_⟩
    have hwt : cap * P.bytesOf e ≤ reachBytes := by
      refine hb _ ?_
      rw [hx]
      simp only [DataW.weights, ht, lits, List.length_map, List.length_take, List.length_drop, List.mem_cons]
      refine .inl ?_
      congr 1
      omega
    have hcap : cap ≤ reachBytes := Nat.le_trans (Nat.le_mul_of_pos_right _ hB) hwt
    have hrb : reachBytes = 140737488351232 := rfl
    simp only [Rel]
    refine ⟨some a, cap, by rw [hlen], by omega, hm, by simp only [lim]; omega, fun h0 => ?_⟩
    have hz0 : 0 < zs.length := by omega
    have h00 := hcell 0 hz0
    obtain ⟨b, o, s⟩ := a
    have hs : s = none := by
      cases s with
      | none => rfl
      | some q =>
        exfalso
        simp only [Addr.add, if_true, World.cell?] at h00
        split at h00 <;> simp at h00
    subst hs
    refine ⟨b, o, rfl, ⟨⟨block_lt_of_cell (a := ⟨b, o, none⟩) (by simpa [Addr.add] using h00), trivial⟩, fun h => by cases h⟩, fun j u hj => ?_⟩
    have hj1 : j < (zs.take len).length := (List.getElem?_eq_some_iff.1 hj).1
    have hj2 : zs[j]? = some u := by rwa [List.getElem?_take_of_lt (by omega)] at hj
    have := hcell j (by omega)
    rw [Addr.add_lit] at this
    rw [this]
    simp [List.getD, hj2]
theorem wide_wf {l : List Int} (h : Wide .u32 l) : wf l := by
  intro x hx
  have := h x hx
  simp only [Lit.wf, Bool.and_eq_true, decide_eq_true_eq] at this
  have e1 : IntKind.min .u32 = 0 := rfl
  have e2 : IntKind.max .u32 = 4294967295 := rfl
  rw [e1, e2] at this
  omega
/-- An integer of the suite, as an argument: any sign, any limbs. -/
theorem arg_iv {v : Value} {d : DataW H} {p : List MemPlace} {ts : List TypeId} {ds : List (DataW H)} {j : Nat} (hsz : (DataW.weightsEach Try.prog ts ds).all (· ≤ reachBytes) = true) (ht : ts[j]? = some 48) (hd : ds[j]? = some d)
    (hval : Value.okWide Try.prog W .any base 48 v) (h : DataW.Trod enc Try.prog W 0 (fun _ => true) true 48 v d p) : ∃ q l, wf l ∧ Rel W (fun _ b => b < W.heap.size ∧ True) (AV q l) v := by
  obtain ⟨v0, v1, y0, y1, n, rfl, rfl, rfl, h0, h1⟩ := open_agg2 Try.underlying48 (by kernel_rfl) (by kernel_rfl) hval h
  obtain ⟨b, hb0, rfl⟩ := DataW.trod_bool Try.underlying4 h0
  have hall : ∀ m ∈ y1.1.weights Try.prog 46, m ≤ reachBytes := fun m hm => by
    have := List.all_eq_true.1 hsz m (DataW.weights_mem_each ht hd m (by simp [DataW.weights, DataW.weightsEach, Try.underlying48, hm]))
    simpa using this
  obtain ⟨l, hl, hr⟩ := ints_rel Try.underlying46 Try.underlying95 (by kernel_rfl) (by decide +kernel) h1 hall
  simp at hb0
  subst hb0
  refine ⟨b, l, wide_wf hl, ?_⟩
  simp only [Rel, Rels] at hr ⊢
  exact ⟨[.bool b, v1], rfl, _, _, rfl, rfl, _, _, rfl, hr, rfl⟩
theorem min_lo (k : IntKind) : k.min = loK k ∧ k.max = hiK k := by cases k <;> exact ⟨rfl, rfl⟩
theorem arg_num {P : Program} {t : TypeId} {k : IntKind} {v : Value} {d : DataW H} {p : List MemPlace} (hu : P.underlying t = some (.int k)) (hval : Value.okWide P W .any base t v) (h : DataW.Trod enc P W 0 (fun _ => true) true t v d p) :
    ∃ n, (loK k ≤ n ∧ n ≤ hiK k) ∧ Rel W (fun _ b => b < W.heap.size ∧ True) (.v (.int k n)) v := by
  obtain ⟨n, rfl, _, _, hw⟩ := open_int hu hval h
  simp only [Lit.wf, Bool.and_eq_true, decide_eq_true_eq] at hw
  rw [(min_lo k).1, (min_lo k).2] at hw
  exact ⟨n, hw, by simp only [Rel]⟩
theorem arg_str {v : Value} {d : DataW H} {p : List MemPlace} (hval : Value.okWide Try.prog W .any base 9 v) (h : DataW.Trod enc Try.prog W 0 (fun _ => true) true 9 v d p) :
    ∃ s, Rel W (fun _ b => b < W.heap.size ∧ True) (.v (.string s)) v := by
  obtain ⟨s, rfl, _⟩ := Go.ChangeMaps.open_string Try.underlying9 hval h
  exact ⟨s, by simp only [Rel]⟩
theorem arg_ints {v : Value} {d : DataW H} {p : List MemPlace} {ts : List TypeId} {ds : List (DataW H)} {j : Nat} (hsz : (DataW.weightsEach Try.prog ts ds).all (· ≤ reachBytes) = true) (ht : ts[j]? = some 100) (hd : ds[j]? = some d)
    (hval : Value.okWide Try.prog W .any base 100 v) (h : DataW.Trod enc Try.prog W 0 (fun _ => true) true 100 v d p) : ∃ l, Wide .i64 l ∧ Rel W (fun _ b => b < W.heap.size ∧ True) (.si false .i64 l) v := by
  obtain ⟨fuel, hf⟩ := h
  obtain ⟨a0, len0, cap0, rfl⟩ := okWide_slice Try.underlying100 hval
  have hall : ∀ m ∈ d.weights Try.prog 100, m ≤ reachBytes := fun m hm => by
    have := List.all_eq_true.1 hsz m (DataW.weights_mem_each ht hd m hm)
    simpa using this
  exact ints_rel Try.underlying100 Try.underlying3 (by kernel_rfl) (by decide +kernel) (by simpa [Value.cells] using hf) hall
end
end Go.Av

set_option maxRecDepth 100000
set_option linter.unusedVariables false
set_option linter.unusedSimpArgs false
/-! Points, lines, boxes, rows of points as arguments of a row. -/
namespace Go.Av
open Go Go.Proofs Go.ChangeShapes Go.WideShapes Go.ChangeAt Go.RowKit Go.Joins
section
variable {H : Type} {enc : TypeId × Value → H} {W : World} {base : Nat}
abbrev in64 (n : Int) : Prop := -9223372036854775808 ≤ n ∧ n ≤ 9223372036854775807
theorem wf64 {n : Int} (h : (Lit.int .i64 n).wf = true) : in64 n := by
  simp only [Lit.wf, Bool.and_eq_true, decide_eq_true_eq] at h
  rw [(min_lo .i64).1, (min_lo .i64).2] at h
  exact h
abbrev inP (p : Pt) : Prop := in64 p.1 ∧ in64 p.2
theorem arg_pt {v : Value} {d : DataW H} {p : List MemPlace} (hval : Value.okWide Try.prog W .any base 28 v) (h : DataW.Trod enc Try.prog W 0 (fun _ => true) true 28 v d p) :
    ∃ a : Pt, inP a ∧ Rel W (fun _ b => b < W.heap.size ∧ True) (pt a) v := by
  obtain ⟨v0, v1, y0, y1, n, rfl, rfl, rfl, h0, h1⟩ := open_agg2 Try.underlying28 (by kernel_rfl) (by kernel_rfl) hval h
  obtain ⟨n0, e0, _, w0⟩ := DataW.trod_int Try.underlying3 h0
  obtain ⟨n1, e1, _, w1⟩ := DataW.trod_int Try.underlying3 h1
  simp only [List.cons.injEq, and_true] at e0 e1
  subst e0 e1
  refine ⟨(n0, n1), ⟨wf64 w0, wf64 w1⟩, ?_⟩
  simp only [Rel, Rels]
  exact ⟨[_, _], rfl, _, _, rfl, rfl, _, _, rfl, rfl, rfl⟩
theorem arg_line {v : Value} {d : DataW H} {p : List MemPlace} (hval : Value.okWide Try.prog W .any base 36 v) (h : DataW.Trod enc Try.prog W 0 (fun _ => true) true 36 v d p) :
    ∃ a : Int × Int × Int, (in64 a.1 ∧ in64 a.2.1 ∧ in64 a.2.2) ∧ Rel W (fun _ b => b < W.heap.size ∧ True) (.ag [I a.1, I a.2.1, I a.2.2]) v := by
  obtain ⟨v0, v1, v2, y0, y1, y2, n, rfl, rfl, rfl, h0, h1, h2⟩ := open_agg3 Try.underlying36 (by kernel_rfl) (by kernel_rfl) hval h
  obtain ⟨n0, e0, _, w0⟩ := DataW.trod_int Try.underlying3 h0
  obtain ⟨n1, e1, _, w1⟩ := DataW.trod_int Try.underlying3 h1
  obtain ⟨n2, e2, _, w2⟩ := DataW.trod_int Try.underlying3 h2
  simp only [List.cons.injEq, and_true] at e0 e1 e2
  subst e0 e1 e2
  refine ⟨(n0, n1, n2), ⟨wf64 w0, wf64 w1, wf64 w2⟩, ?_⟩
  simp only [Rel, Rels]
  exact ⟨[_, _, _], rfl, _, _, rfl, rfl, _, _, rfl, rfl, _, _, rfl, rfl, rfl⟩
theorem arg_box {v : Value} {d : DataW H} {p : List MemPlace} (hval : Value.okWide Try.prog W .any base 58 v) (h : DataW.Trod enc Try.prog W 0 (fun _ => true) true 58 v d p) :
    ∃ x y w h' : Int, (in64 x ∧ in64 y ∧ in64 w ∧ in64 h') ∧ Rel W (fun _ b => b < W.heap.size ∧ True) (b4 x y w h') v := by
  obtain ⟨v0, v1, v2, v3, y0, y1, y2, y3, n, rfl, rfl, rfl, h0, h1, h2, h3⟩ := open_agg4 Try.underlying58 (by kernel_rfl) (by kernel_rfl) hval h
  obtain ⟨n0, e0, _, w0⟩ := DataW.trod_int Try.underlying3 h0
  obtain ⟨n1, e1, _, w1⟩ := DataW.trod_int Try.underlying3 h1
  obtain ⟨n2, e2, _, w2⟩ := DataW.trod_int Try.underlying3 h2
  obtain ⟨n3, e3, _, w3⟩ := DataW.trod_int Try.underlying3 h3
  simp only [List.cons.injEq, and_true] at e0 e1 e2 e3
  subst e0 e1 e2 e3
  refine ⟨n0, n1, n2, n3, ⟨wf64 w0, wf64 w1, wf64 w2, wf64 w3⟩, ?_⟩
  simp only [Rel, Rels]
  exact ⟨[_, _, _, _], rfl, _, _, rfl, rfl, _, _, rfl, rfl, _, _, rfl, rfl, _, _, rfl, rfl, rfl⟩
def ptW_ (p : Pt) : Value := .agg #[.int .i64 p.1, .int .i64 p.2]
theorem flat_cons (y : Value) (ys : List Value) : flat (y :: ys) = y.cells.toList ++ flat ys := rfl
theorem flat_ptW_ {w : World} {b : Nat} : ∀ (l : List Pt) (o : Nat), (∀ i p, l[i]? = some p → w.cell? ⟨b, o + 2 * i, none⟩ = some (.int .i64 p.1) ∧ w.cell? ⟨b, o + 2 * i + 1, none⟩ = some (.int .i64 p.2)) → ∀ j x, (flat (l.map ptW_))[j]? = some x → w.cell? ⟨b, o + j, none⟩ = some x
  | [], o, h, j, x, hj => by simp [flat] at hj
  | p :: l, o, h, j, x, hj => by
    rw [List.map_cons, flat_cons] at hj
    have hc : (ptW_ p).cells.toList = [.int .i64 p.1, .int .i64 p.2] := rfl
    rw [hc] at hj
    have h0 := h 0 p rfl
    match j, hj with
    | 0, hj => simp at hj; subst hj; simpa using h0.1
    | 1, hj => simp at hj; subst hj; simpa using h0.2
    | j + 2, hj =>
      have hj' : (flat (l.map ptW_))[j]? = some x := by simpa using hj
      have := flat_ptW_ l (o + 2) (fun i q hq => by
        have := h (i + 1) q (by simpa using hq)
        rw [show o + 2 * (i + 1) = o + 2 + 2 * i by omega] at this
        exact this) j x hj'
      rw [show o + (j + 2) = o + 2 + j by omega]
      exact this
theorem rels_ptW_ {w : World} {ok : Bool → Nat → Prop} : ∀ l : List Pt, Rels w ok (pts l) (l.map ptW_)
  | [] => by simp only [pts, List.map_nil, Rels]
  | p :: l => by
    have := rels_ptW_ (w := w) (ok := ok) l
    simp only [pts, List.map_cons, Rels] at this ⊢
    refine ⟨_, _, rfl, ?_, this⟩
    simp only [Rel, Rels]
    exact ⟨[_, _], rfl, _, _, rfl, rfl, _, _, rfl, rfl, rfl⟩
theorem arg_pts {v : Value} {d : DataW H} {p : List MemPlace} {ts : List TypeId} {ds : List (DataW H)} {j : Nat} (hsz : (DataW.weightsEach Try.prog ts ds).all (· ≤ reachBytes) = true) (ht : ts[j]? = some 22) (hd : ds[j]? = some d)
    (hval : Value.okWide Try.prog W .any base 22 v) (h : DataW.Trod enc Try.prog W 0 (fun _ => true) true 22 v d p) : ∃ l : List Pt, (∀ a ∈ l, inP a) ∧ Rel W (fun _ b => b < W.heap.size ∧ True) (.ss false 2 (pts l)) v := by
  obtain ⟨fuel, hf⟩ := h
  obtain ⟨a0, len0, cap0, rfl⟩ := okWide_slice Try.underlying22 hval
  have hall : ∀ m ∈ d.weights Try.prog 22, m ≤ reachBytes := fun m hm => by
    have := List.all_eq_true.1 hsz m (DataW.weights_mem_each ht hd m hm)
    simpa using this
  have hc2 : Try.prog.cellsOf 28 = 2 := by kernel_rfl
  have hc1 : Try.prog.cellsOf 3 = 1 := by kernel_rfl
  have hB : 0 < Try.prog.bytesOf 28 := by decide +kernel
  rcases Go.Deep.open_slice Try.underlying22 hf with ⟨hcs, hx⟩ | ⟨a, len, cap, m, n, D, Pl, hcs, _, hl, hm, hmm, hx, hcell⟩
  · simp [Value.cells] at hcs
    obtain ⟨rfl, rfl, rfl⟩ := hcs
    refine ⟨[], by simp, ?_⟩
    simp only [Rel]
    exact ⟨none, 0, [], rfl, by simp, by simp [maxLen], by simp [pts, lim], by simp only [pts, List.map_nil, Rels], by simp, fun h => by simp [pts] at h⟩
  · simp [Value.cells] at hcs
    obtain ⟨rfl, rfl, rfl⟩ := hcs
    simp only [if_true] at hmm
    subst hmm
    rw [hc2] at hcell
    obtain ⟨f, hfp⟩ := Go.Deep.choose_lt (α := Pt) (n := m) (p := fun i q => inP q ∧ W.cell? (a.add (i * 2)) = some (.int .i64 q.1) ∧ W.cell? (a.add (i * 2 + 1)) = some (.int .i64 q.2)) (fun i hi => by
      obtain ⟨cs', h1, h2⟩ := hcell i hi
      obtain ⟨_, hlen, hcc⟩ := World.cells?_some h1
      match cs', hlen with
      | [c0, c1], _ =>
        obtain ⟨y0, y1, n', hx0, _, h20, h21⟩ := trod_struct2 Try.underlying28 h2
        simp only [hc1, List.drop_zero, List.take_succ_cons, List.take_zero, List.drop_succ_cons] at h20 h21
        obtain ⟨n0, e0, _, w0⟩ := DataW.trod_int Try.underlying3 h20
        obtain ⟨n1, e1, _, w1⟩ := DataW.trod_int Try.underlying3 h21
        simp only [List.cons.injEq, and_true] at e0 e1
        subst e0 e1
        refine ⟨(n0, n1), ⟨wf64 w0, wf64 w1⟩, ?_, ?_⟩
        · have := hcc 0 (by omega)
          rwa [Go.Deep.add_add] at this
        · have := hcc 1 (by omega)
          rwa [Go.Deep.add_add] at this)
    have hlt : ((List.range len0).map f).length = len0 := by simp
    have hwt : m * Try.prog.bytesOf 28 ≤ reachBytes := by
      refine hall _ ?_
      simp only [Prod.mk.injEq] at hx
      rw [hx.1]
      simp only [DataW.weights, Try.underlying22, List.length_map, List.length_range, List.mem_cons]
      refine .inl ?_
      congr 1
      omega
    have hcap : m ≤ reachBytes := Nat.le_trans (Nat.le_mul_of_pos_right _ hB) hwt
    have hrb : reachBytes = 140737488351232 := rfl
    refine ⟨(List.range len0).map f, fun q hq => ?_, ?_⟩
    · obtain ⟨i, hi, rfl⟩ := List.mem_map.1 hq
      exact (hfp i (by have := List.mem_range.1 hi; omega)).1
    simp only [Rel]
    refine ⟨some a, m, ((List.range len0).map f).map ptW_, by rw [pts_len, hlt], by rw [pts_len, hlt]; exact hl, hm, by rw [pts_len, hlt]; simp only [lim]; omega, rels_ptW_ _, fun z hz => ?_, fun h0 => ?_⟩
    · obtain ⟨q, _, rfl⟩ := List.mem_map.1 hz; rfl
    rw [pts_len, hlt] at h0
    have h00 := (hfp 0 (by omega)).2.1
    obtain ⟨b, o, s⟩ := a
    have hs : s = none := by
      cases s with
      | none => rfl
      | some q =>
        exfalso
        simp only [Addr.add, Nat.zero_mul, if_true, World.cell?] at h00
        split at h00 <;> simp at h00
    subst hs
    refine ⟨b, o, rfl, ⟨⟨block_lt_of_cell (a := ⟨b, o, none⟩) (by simpa [Addr.add] using h00), trivial⟩, fun h => by cases h⟩, ?_⟩
    refine flat_ptW_ _ o (fun i q hq => ?_)
    have hi : i < len0 := by have := (List.getElem?_eq_some_iff.1 hq).1; simpa using this
    have he : f i = q := by simpa [hi] using hq
    have := (hfp i (by omega)).2
    rw [Addr.add_lit, Addr.add_lit, he] at this
    rw [show o + 2 * i = o + i * 2 by omega]
    exact this
end
end Go.Av

set_option maxHeartbeats 8000000
set_option exponentiation.threshold 100000
set_option maxRecDepth 100000
set_option linter.unusedVariables false
set_option linter.unusedSimpArgs false
namespace Go.Av
open Go Go.Proofs
/-! The hull in plain words: the chain of turns and the wrapping give the same corners. No program here. -/
abbrev K2 := Int × Int
def lf (k : K2) (p : Pt) : Int := k.1 * p.1 + k.2 * p.2
theorem mul_pos_of {v c : Int} (hv : 0 < v) (h : 0 < v * c) : 0 < c := by
  by_cases hc : 0 < c
  · exact hc
  · exfalso
    have := Int.mul_le_mul_of_nonneg_left (show c ≤ 0 by omega) (Int.le_of_lt hv)
    rw [Int.mul_zero] at this
    omega
theorem mul_nn_of {v c : Int} (hv : 0 < v) (h : 0 ≤ v * c) : 0 ≤ c := by
  by_cases hc : 0 ≤ c
  · exact hc
  · exfalso
    have := Int.mul_lt_mul_of_pos_left (show c < 0 by omega) hv
    rw [Int.mul_zero] at this
    omega
theorem mul_z_of {v c : Int} (hv : 0 < v) (h : v * c = 0) : c = 0 := by
  rcases Int.mul_eq_zero.1 h with h | h
  · omega
  · exact h
theorem nn2 {a b c d : Int} (ha : 0 ≤ a) (hb : 0 ≤ b) (hc : 0 ≤ c) (hd : 0 ≤ d) : 0 ≤ a * b + c * d := by
  have h1 := Int.mul_nonneg ha hb
  have h2 := Int.mul_nonneg hc hd
  omega
theorem pos2l {a b c d : Int} (ha : 0 < a) (hb : 0 < b) (hc : 0 ≤ c) (hd : 0 ≤ d) : 0 < a * b + c * d := by
  have h1 := Int.mul_pos ha hb
  have h2 := Int.mul_nonneg hc hd
  omega
theorem pos2r {a b c d : Int} (ha : 0 ≤ a) (hb : 0 ≤ b) (hc : 0 < c) (hd : 0 < d) : 0 < a * b + c * d := by
  have h1 := Int.mul_nonneg ha hb
  have h2 := Int.mul_pos hc hd
  omega
section
variable {k : K2}
theorem idA (a b c p : Pt) : (lf k a - lf k b) * crossP c b p = crossP c b a * (lf k p - lf k b) + crossP b a p * (lf k b - lf k c) := by unfold lf crossP; grind
theorem idB1 (a b p x : Pt) : (lf k a - lf k b) * crossP a p x = crossP b a x * (lf k p - lf k a) + crossP b a p * (lf k a - lf k x) := by unfold lf crossP; grind
theorem idB2 (a b p x : Pt) : (lf k p - lf k a) * crossP b p x = crossP a p x * (lf k p - lf k b) + (-(crossP b a p)) * (lf k p - lf k x) := by unfold lf crossP; grind
theorem idB3 (a b p x : Pt) : (lf k a - lf k b) * crossP b p x = (-(crossP b a p)) * (lf k x - lf k b) + crossP b a x * (lf k p - lf k b) := by unfold lf crossP; grind
theorem idN (a p x z : Pt) : (lf k x - lf k p) * crossP a x z = crossP p x a * (lf k z - lf k x) + crossP p x z * (lf k x - lf k a) := by unfold lf crossP; grind
theorem cr_self (p q : Pt) : crossP p q q = 0 := by unfold crossP; grind
theorem cr_self2 (p q : Pt) : crossP p q p = 0 := by unfold crossP; grind
theorem cr_self3 (p q : Pt) : crossP p p q = 0 := by unfold crossP; grind
theorem cr_swap (p q x : Pt) : crossP p q x = -(crossP p x q) := by unfold crossP; grind
theorem cr_swap2 (p q x : Pt) : crossP p q x = -(crossP q p x) := by unfold crossP; grind
theorem cr_rot (p q x : Pt) : crossP p q x = crossP q x p := by unfold crossP; grind
end
def Gd (k : K2) (p q x : Pt) : Prop := 0 ≤ crossP p q x ∧ (crossP p q x = 0 → lf k p ≤ lf k x ∧ lf k x ≤ lf k q)
def OKs (k : K2) (D : List Pt) : List Pt → Prop
  | q :: p :: r => lf k p < lf k q ∧ (∀ x ∈ D, Gd k p q x) ∧ OKs k D (p :: r)
  | _ => True
def Trn : List Pt → Prop
  | c :: b :: a :: r => 0 < crossP a b c ∧ Trn (b :: a :: r)
  | _ => True
def PosAll (p : Pt) : List Pt → Prop
  | a :: b :: r => 0 < crossP b a p ∧ PosAll p (b :: r)
  | _ => True
theorem OKs.tail {k : K2} {D : List Pt} {q : Pt} : ∀ {r}, OKs k D (q :: r) → OKs k D r
  | [], _ => trivial
  | _ :: _, h => h.2.2
theorem Trn.tail {q : Pt} : ∀ {r}, Trn (q :: r) → Trn r
  | [], _ => trivial
  | [_], _ => trivial
  | _ :: _ :: _, h => h.2
theorem posAll {k : K2} {D : List Pt} {p : Pt} : ∀ (r : List Pt) (a b : Pt), OKs k D (a :: b :: r) → Trn (a :: b :: r) → lf k a < lf k p → 0 < crossP b a p → PosAll p (a :: b :: r)
  | [], a, b, _, _, _, h => ⟨h, trivial⟩
  | c :: r, a, b, ho, ht, hl, h => by
    have h1 : lf k b < lf k a := ho.1
    have h2 : lf k c < lf k b := ho.2.2.1
    have h3 : 0 < crossP c b a := ht.1
    refine ⟨h, posAll r b c ho.2.2 ht.2 (by omega) ?_⟩
    refine mul_pos_of (v := lf k a - lf k b) (by omega) ?_
    rw [idA]
    exact pos2l h3 (by omega) (by omega) (by omega)
theorem OKs.ext {k : K2} {D : List Pt} {p : Pt} : ∀ {st}, OKs k D st → PosAll p st → OKs k (p :: D) st
  | [], _, _ => trivial
  | [_], _, _ => trivial
  | a :: b :: r, h, hp => by
    refine ⟨h.1, fun x hx => ?_, OKs.ext h.2.2 hp.2⟩
    rcases List.mem_cons.1 hx with rfl | hx
    · have := hp.1
      exact ⟨by omega, fun e => by omega⟩
    · exact h.2.1 x hx
/-- What the popping leaves. -/
theorem pop_ok {k : K2} {D : List Pt} {p : Pt} (hD : ∀ x ∈ D, lf k x < lf k p) : ∀ (r : List Pt) (a : Pt), OKs k D (a :: r) → Trn (a :: r) → (∀ y ∈ a :: r, y ∈ D) → (∀ x ∈ D, lf k a ≤ lf k x → Gd k a p x) → (∀ z, (a :: r).getLast? = some z → ∀ x ∈ D, lf k z ≤ lf k x) →
    OKs k (p :: D) (p :: popP p (a :: r)) ∧ Trn (p :: popP p (a :: r))
  | [], a, ho, ht, hm, hG, hz => by
    have ha := hD a (hm a (by simp))
    refine ⟨⟨ha, fun x hx => ?_, trivial⟩, trivial⟩
    rcases List.mem_cons.1 hx with rfl | hx
    · exact ⟨by rw [cr_self]; omega, fun _ => ⟨by omega, by omega⟩⟩
    · exact hG x hx (hz a rfl x hx)
  | b :: r, a, ho, ht, hm, hG, hz => by
    have h1 : lf k b < lf k a := ho.1
    have ha := hD a (hm a (by simp))
    have e : popP p (a :: b :: r) = if crossP b a p ≤ 0 then popP p (b :: r) else a :: b :: r := by rw [popP]
    rw [e]
    by_cases hc : crossP b a p ≤ 0
    · rw [if_pos hc]
      refine pop_ok hD r b ho.tail ht.tail (fun y hy => hm y (List.mem_cons_of_mem _ hy)) (fun x hx hl => ?_) (fun z h => hz z (by rw [List.getLast?_cons_cons]; exact h))
      have hxp := hD x hx
      refine ⟨?_, fun _ => ⟨hl, by omega⟩⟩
      by_cases hxa : lf k a ≤ lf k x
      · have g := hG x hx hxa
        refine mul_nn_of (v := lf k p - lf k a) (by omega) ?_
        rw [idB2]
        exact nn2 g.1 (by omega) (by omega) (by omega)
      · have g := ho.2.1 x hx
        refine mul_nn_of (v := lf k a - lf k b) (by omega) ?_
        rw [idB3]
        exact nn2 (by omega) (by omega) g.1 (by omega)
    · rw [if_neg hc]
      have hp : 0 < crossP b a p := by omega
      refine ⟨⟨ha, fun x hx => ?_, ho.ext (posAll r a b ho ht ha hp)⟩, ⟨hp, ht⟩⟩
      rcases List.mem_cons.1 hx with rfl | hx
      · exact ⟨by rw [cr_self]; omega, fun _ => ⟨by omega, by omega⟩⟩
      · by_cases hxa : lf k a ≤ lf k x
        · exact hG x hx hxa
        · have g := ho.2.1 x hx
          have : 0 < crossP a p x := by
            refine mul_pos_of (v := lf k a - lf k b) (by omega) ?_
            rw [idB1]
            exact pos2r g.1 (by omega) hp (by omega)
          exact ⟨by omega, fun e => by omega⟩
theorem popP_sub (p : Pt) : ∀ (st : List Pt), ∀ y ∈ popP p st, y ∈ st
  | [], y, h => h
  | [a], y, h => h
  | a :: b :: r, y, h => by
    rw [popP] at h
    split at h
    · exact List.mem_cons_of_mem _ (popP_sub p (b :: r) y h)
    · exact h
theorem popP_last (p : Pt) : ∀ (st : List Pt), (popP p st).getLast? = st.getLast?
  | [] => rfl
  | [a] => rfl
  | a :: b :: r => by
    rw [popP]
    split
    · rw [popP_last p (b :: r), List.getLast?_cons_cons]
    · rfl
theorem popP_ne (p : Pt) {st : List Pt} (h : st ≠ []) : popP p st ≠ [] := by
  intro e
  have := popP_last p st
  rw [e] at this
  cases st with
  | nil => exact h rfl
  | cons a r => exact absurd (List.getLast?_eq_none_iff.1 this.symm) h
structure CInv (k : K2) (a0 : Pt) (D st : List Pt) : Prop where
  top : ∃ a r D0, st = a :: r ∧ D = a :: D0 ∧ ∀ x ∈ D0, lf k x < lf k a
  ok : OKs k D st
  trn : Trn st
  last : st.getLast? = some a0
  low : ∀ x ∈ D, lf k a0 ≤ lf k x
  sub : ∀ y ∈ st, y ∈ D
theorem CInv.step {k : K2} {a0 p : Pt} {D st : List Pt} (h : CInv k a0 D st) (hp : ∀ x ∈ D, lf k x < lf k p) : CInv k a0 (p :: D) (p :: popP p st) := by
  obtain ⟨a, r, D0, rfl, rfl, hD0⟩ := h.top
  have hpop := pop_ok hp r a h.ok h.trn h.sub (fun x hx hl => by
    rcases List.mem_cons.1 hx with rfl | hx
    · have := hp x (by simp)
      exact ⟨by rw [cr_self2]; omega, fun _ => ⟨by omega, by omega⟩⟩
    · have := hD0 x hx; omega) (fun z hz => by rw [h.last] at hz; cases hz; exact h.low)
  refine ⟨⟨p, popP p (a :: r), a :: D0, rfl, rfl, hp⟩, hpop.1, hpop.2, ?_, fun x hx => ?_, fun y hy => ?_⟩
  · have hne := popP_ne p (st := a :: r) (by simp)
    cases hq : popP p (a :: r) with
    | nil => exact absurd hq hne
    | cons b s => rw [List.getLast?_cons_cons, ← hq, popP_last]; exact h.last
  · rcases List.mem_cons.1 hx with rfl | hx
    · have h1 := h.low a (by simp)
      have h2 := hp a (by simp)
      omega
    · exact h.low x hx
  · rcases List.mem_cons.1 hy with rfl | hy
    · simp
    · exact List.mem_cons_of_mem _ (h.sub y (popP_sub p _ y hy))
theorem chain_inv {k : K2} {a0 : Pt} : ∀ (S : List Pt) (D st : List Pt), CInv k a0 D st → S.Pairwise (fun p q => lf k p < lf k q) → (∀ x ∈ D, ∀ y ∈ S, lf k x < lf k y) → CInv k a0 (S.reverse ++ D) (S.foldl (fun st p => p :: popP p st) st)
  | [], D, st, h, _, _ => h
  | p :: S, D, st, h, hS, hD => by
    have hS' := List.pairwise_cons.1 hS
    have := chain_inv S (p :: D) (p :: popP p st) (h.step (fun x hx => hD x hx p (by simp))) hS'.2 (fun x hx y hy => by
      rcases List.mem_cons.1 hx with rfl | hx
      · exact hS'.1 y hy
      · exact hD x hx y (List.mem_cons_of_mem _ hy))
    rw [List.reverse_cons, List.append_assoc]
    exact this
theorem chain_all {k : K2} {a0 : Pt} {S : List Pt} (hS : (a0 :: S).Pairwise (fun p q => lf k p < lf k q)) : CInv k a0 (a0 :: S).reverse ((a0 :: S).foldl (fun st p => p :: popP p st) []) := by
  have hS' := List.pairwise_cons.1 hS
  have h0 : CInv k a0 [a0] [a0] := ⟨⟨a0, [], [], rfl, rfl, by simp⟩, trivial, trivial, rfl, by simp, by simp⟩
  have := chain_inv S [a0] [a0] h0 hS'.2 (fun x hx y hy => by
    have : x = a0 := by simpa using hx
    subst this
    exact hS'.1 y hy)
  rw [List.reverse_cons]
  exact this

/-! What follows what. -/
def Adj (R : Pt → Pt → Prop) : List Pt → Prop
  | p :: q :: r => R p q ∧ Adj R (q :: r)
  | _ => True
theorem Adj.imp {R T : Pt → Pt → Prop} (h : ∀ p q, R p q → T p q) : ∀ {l}, Adj R l → Adj T l
  | [], _ => trivial
  | [_], _ => trivial
  | _ :: _ :: _, a => ⟨h _ _ a.1, Adj.imp h a.2⟩
theorem Adj.glue {R : Pt → Pt → Prop} {p : Pt} {r : List Pt} (h2 : Adj R (p :: r)) : ∀ {l}, Adj R (l ++ [p]) → Adj R (l ++ p :: r)
  | [], _ => h2
  | [x], h => ⟨h.1, h2⟩
  | x :: y :: l, h => ⟨h.1, Adj.glue (l := y :: l) h2 h.2⟩
theorem Adj.tail {R : Pt → Pt → Prop} {p : Pt} : ∀ {r}, Adj R (p :: r) → Adj R r
  | [], _ => trivial
  | _ :: _, h => h.2
theorem Adj.pred {R : Pt → Pt → Prop} : ∀ {l : List Pt} {a x : Pt}, Adj R (a :: l) → x ∈ l → ∃ p ∈ a :: l, R p x
  | q :: l, a, x, h, hx => by
    rcases List.mem_cons.1 hx with rfl | hx
    · exact ⟨a, by simp, h.1⟩
    · obtain ⟨p, hp, hr⟩ := Adj.pred h.2 hx
      exact ⟨p, List.mem_cons_of_mem _ hp, hr⟩
abbrev Ed (k : K2) (D : List Pt) (p q : Pt) : Prop := lf k p < lf k q ∧ ∀ x ∈ D, Gd k p q x
theorem OKs.adj {k : K2} {D : List Pt} : ∀ {st}, OKs k D st → Adj (Ed k D) st.reverse
  | [], _ => trivial
  | [_], _ => trivial
  | q :: p :: r, h => by
    have := OKs.adj h.2.2
    rw [List.reverse_cons] at this
    rw [List.reverse_cons, List.reverse_cons, List.append_assoc]
    exact Adj.glue (p := p) (r := [q]) ⟨⟨h.1, h.2.1⟩, trivial⟩ this
/-- The chain of an ascending list. -/
structure Chn (k : K2) (S A : List Pt) (a z : Pt) : Prop where
  adj : Adj (Ed k S) A
  head : ∃ r, A = a :: r
  last : ∃ r, A = r ++ [z]
  sub : ∀ y ∈ A, y ∈ S
theorem chn_of {k : K2} {S : List Pt} {a z : Pt} (hS : (a :: S).Pairwise (fun p q => lf k p < lf k q)) (hz : (a :: S).getLast? = some z) : Chn k (a :: S) (chnF (a :: S)) a z := by
  have h := chain_all hS
  unfold chnF
  generalize (a :: S).foldl (fun st p => p :: popP p st) [] = st at *
  obtain ⟨b, r, D0, rfl, hD, _⟩ := h.top
  have hb : b = z := by
    have e1 : (a :: S).reverse.head? = some z := by rw [List.head?_reverse]; exact hz
    rw [hD] at e1
    simpa using e1
  subst hb
  refine ⟨?_, ?_, ⟨r.reverse, by rw [List.reverse_cons]⟩, fun y hy => ?_⟩
  · refine (h.ok.adj).imp (fun p q e => ⟨e.1, fun x hx => e.2 x (List.mem_reverse.2 hx)⟩)
  · have e := h.last
    have e2 : (b :: r).reverse.head? = some a := by rw [List.head?_reverse]; exact e
    cases hq : (b :: r).reverse with
    | nil => rw [hq] at e2; cases e2
    | cons c s => rw [hq] at e2; simp at e2; exact ⟨s, by rw [e2]⟩
  · exact List.mem_reverse.1 (h.sub y (List.mem_reverse.1 hy))
end Go.Av

set_option maxHeartbeats 8000000
set_option exponentiation.threshold 100000
set_option maxRecDepth 100000
set_option linter.unusedVariables false
set_option linter.unusedSimpArgs false
namespace Go.Av
open Go Go.Proofs
/-! The wrapping. -/
def k0 : K2 := (67108864, 1)
def k1 : K2 := (-67108864, -1)
theorem lf_neg (p : Pt) : lf k1 p = - lf k0 p := by simp only [lf, k0, k1]; omega
theorem ltP_lf {p q : Pt} (hp : sm p) (hq : sm q) : ltP p q = true ↔ lf k0 p < lf k0 q := by
  simp only [ltP, lf, k0, decide_eq_true_eq]
  omega
theorem lf_inj {p q : Pt} (hp : sm p) (hq : sm q) (h : lf k0 p = lf k0 q) : p = q := by
  simp only [lf, k0] at h
  exact Prod.ext (by omega) (by omega)
abbrev btw (p q x : Pt) : Prop := (lf k0 p ≤ lf k0 x ∧ lf k0 x ≤ lf k0 q) ∨ (lf k0 q ≤ lf k0 x ∧ lf k0 x ≤ lf k0 p)
/-- The corner q follows the corner p. -/
def NX (l : List Pt) (p q : Pt) : Prop := q ∈ l ∧ lf k0 p ≠ lf k0 q ∧ ∀ x ∈ l, 0 ≤ crossP p q x ∧ (crossP p q x = 0 → btw p q x)
theorem int_sq (a : Int) : 0 ≤ a * a := by
  rcases Int.lt_or_le a 0 with h | h
  · exact Int.le_of_lt (Int.mul_pos_of_neg_of_neg h h)
  · exact Int.mul_nonneg h h
theorem far_lt {d1 d2 e1 e2 K : Int} (h0 : d1 * e2 - d2 * e1 = 0) (hF : K * d1 + d2 ≠ 0) (hb : 0 ≤ K * e1 + e2 ∧ K * e1 + e2 ≤ K * d1 + d2 ∨ K * d1 + d2 ≤ K * e1 + e2 ∧ K * e1 + e2 ≤ 0) : (e1 = d1 ∧ e2 = d2) ∨ e1 * e1 + e2 * e2 < d1 * d1 + d2 * d2 := by
  have a1 : (K * d1 + d2) * e1 = (K * e1 + e2) * d1 := by grind
  have a2 : (K * d1 + d2) * e2 = (K * e1 + e2) * d2 := by grind
  have hd : 0 < d1 * d1 + d2 * d2 := by
    have s1 : 0 ≤ d1 * d1 := int_sq _
    have s2 : 0 ≤ d2 * d2 := int_sq _
    by_cases h1 : d1 * d1 + d2 * d2 = 0
    · exfalso
      have q1 : d1 = 0 := by rcases Int.mul_eq_zero.1 (show d1 * d1 = 0 by omega) with h | h <;> exact h
      have q2 : d2 = 0 := by rcases Int.mul_eq_zero.1 (show d2 * d2 = 0 by omega) with h | h <;> exact h
      rw [q1, q2, Int.mul_zero] at hF
      exact hF rfl
    · omega
  generalize K * d1 + d2 = F at *
  generalize K * e1 + e2 = f at *
  by_cases hf : f = F
  · subst hf
    exact .inl ⟨Int.eq_of_mul_eq_mul_left hF a1, Int.eq_of_mul_eq_mul_left hF a2⟩
  · right
    have hff : f * f < F * F := by
      have : 0 < (F - f) * (F + f) := by
        rcases hb with hb | hb
        · exact Int.mul_pos (by omega) (by omega)
        · exact Int.mul_pos_of_neg_of_neg (by omega) (by omega)
      have e : (F - f) * (F + f) = F * F - f * f := by grind
      omega
    have e : F * F * (e1 * e1 + e2 * e2) = f * f * (d1 * d1 + d2 * d2) := by
      have : F * F * (e1 * e1 + e2 * e2) = (F * e1) * (F * e1) + (F * e2) * (F * e2) := by grind
      rw [this, a1, a2]
      grind
    have h3 : f * f * (d1 * d1 + d2 * d2) < F * F * (d1 * d1 + d2 * d2) := Int.mul_lt_mul_of_pos_right hff hd
    by_cases h4 : e1 * e1 + e2 * e2 < d1 * d1 + d2 * d2
    · exact h4
    · exfalso
      have := Int.mul_le_mul_of_nonneg_left (show d1 * d1 + d2 * d2 ≤ e1 * e1 + e2 * e2 by omega) (show 0 ≤ F * F from int_sq _)
      omega
theorem NX.far {l : List Pt} {p q x : Pt} (h : NX l p q) (hx : x ∈ l) (h0 : crossP p q x = 0) : x = q ∨ farP p x < farP p q := by
  obtain ⟨_, hne, hall⟩ := h
  have hb := (hall x hx).2 h0
  have e1 : farP p x = (x.1 - p.1) * (x.1 - p.1) + (x.2 - p.2) * (x.2 - p.2) := by unfold farP; grind
  have e2 : farP p q = (q.1 - p.1) * (q.1 - p.1) + (q.2 - p.2) * (q.2 - p.2) := by unfold farP; grind
  have := far_lt (d1 := q.1 - p.1) (d2 := q.2 - p.2) (e1 := x.1 - p.1) (e2 := x.2 - p.2) (K := 67108864) (by unfold crossP at h0; exact h0) (by simp only [lf, k0] at hne; omega) (by simp only [btw, lf, k0] at hb; omega)
  rcases this with ⟨g1, g2⟩ | g
  · exact .inl (Prod.ext (by omega) (by omega))
  · rw [e1, e2]; exact .inr g
def rstep (p b x : Pt) : Pt := if b = p ∨ crossP p b x < 0 ∨ (crossP p b x = 0 ∧ farP p b < farP p x) then x else b
def rnext (l : List Pt) (p : Pt) : Pt := l.foldl (rstep p) p
theorem NX.ne {l : List Pt} {p q : Pt} (h : NX l p q) : q ≠ p := fun e => h.2.1 (by rw [e])
theorem rstep_stay {l : List Pt} {p q : Pt} (h : NX l p q) : ∀ (s : List Pt), (∀ x ∈ s, x ∈ l) → s.foldl (rstep p) q = q
  | [], _ => rfl
  | x :: s, hs => by
    have hx := hs x (by simp)
    have e : rstep p q x = q := by
      unfold rstep
      split
      · next g =>
        have h1 := (h.2.2 x hx).1
        rcases g with g | g | ⟨g1, g2⟩
        · exact absurd g h.ne
        · omega
        · rcases h.far hx g1 with e | e
          · exact e
          · omega
      · rfl
    rw [List.foldl_cons, e]
    exact rstep_stay h s (fun y hy => hs y (List.mem_cons_of_mem _ hy))
theorem rstep_hit {l : List Pt} {p q b : Pt} (h : NX l p q) (hb : b = p ∨ b ∈ l) : rstep p b q = q := by
  unfold rstep
  split
  · rfl
  · next g =>
    rcases hb with hb | hb
    · exact absurd (.inl hb) g
    · have h1 := (h.2.2 b hb).1
      have h2 := cr_swap p q b
      by_cases h3 : crossP p q b = 0
      · rcases h.far hb h3 with e | e
        · exact e
        · exact absurd (.inr (.inr ⟨by omega, e⟩)) g
      · exact absurd (.inr (.inl (by omega))) g
theorem rnext_fold {l : List Pt} {p q : Pt} (h : NX l p q) : ∀ (s : List Pt) (b : Pt), (∀ x ∈ s, x ∈ l) → (b = p ∨ b ∈ l) → q ∈ s → s.foldl (rstep p) b = q
  | x :: s, b, hs, hb, hq => by
    rw [List.foldl_cons]
    by_cases e : x = q
    · subst e
      rw [rstep_hit h hb]
      exact rstep_stay h s (fun y hy => hs y (List.mem_cons_of_mem _ hy))
    · refine rnext_fold h s _ (fun y hy => hs y (List.mem_cons_of_mem _ hy)) ?_ ?_
      · unfold rstep
        split
        · exact .inr (hs x (by simp))
        · exact hb
      · rcases List.mem_cons.1 hq with g | g
        · exact absurd g.symm e
        · exact g
theorem rnext_eq {l : List Pt} {p q : Pt} (h : NX l p q) : rnext l p = q := rnext_fold h l p (fun _ hx => hx) (.inl rfl) h.1
theorem rnext_all {p : Pt} : ∀ (l : List Pt), (∀ x ∈ l, x = p) → rnext l p = p
  | [], _ => rfl
  | x :: l, h => by
    have e : x = p := h x (by simp)
    have : rnext (x :: l) p = rnext l (p) := by
      unfold rnext
      rw [List.foldl_cons, e]
      have : rstep p p p = p := by unfold rstep; rw [if_pos (.inl rfl)]
      rw [this]
    rw [this]
    exact rnext_all l (fun y hy => h y (List.mem_cons_of_mem _ hy))
def lastP (out : List Pt) : Pt := at_ out ((out.length : Int) - 1)
theorem lastP_snoc (l : List Pt) (p : Pt) : lastP (l ++ [p]) = p := by
  unfold lastP at_
  rw [List.length_append, List.length_singleton, show ((l.length + 1 : Nat) : Int) - 1 = (l.length : Nat) by omega, Int.toNat_natCast, List.getD_eq_getElem?_getD, List.getElem?_append_right (Nat.le_refl _), Nat.sub_self]
  rfl
def rgo (l : List Pt) (first : Pt) : Nat → List Pt → List Pt
  | 0, out => out
  | n + 1, out => if rnext l (lastP out) = first then out else rgo l first n (out ++ [rnext l (lastP out)])
theorem rgo_path {l : List Pt} {first : Pt} : ∀ (t pre : List Pt) (c : Pt) (n : Nat), Adj (NX l) (c :: (t ++ [first])) → first ∉ t → t.length < n → rgo l first n (pre ++ [c]) = pre ++ c :: t
  | t, pre, c, 0, _, _, h => absurd h (by omega)
  | [], pre, c, n + 1, ha, _, _ => by
    have e := rnext_eq ha.1
    unfold rgo
    rw [lastP_snoc, if_pos e]
  | d :: t, pre, c, n + 1, ha, hf, hn => by
    have e := rnext_eq ha.1
    unfold rgo
    rw [lastP_snoc, e, if_neg (fun g => hf (by rw [g]; simp))]
    rw [rgo_path t (pre ++ [c]) d n ha.2 (fun g => hf (List.mem_cons_of_mem _ g)) (by simp only [List.length_cons] at hn; omega), List.append_assoc]
    rfl
def rfirst (l : List Pt) : Pt := l.foldl (fun m x => if ltP x m = true then x else m) (at_ l 0)
theorem rfirst_fold : ∀ (s : List Pt) (m : Pt), (s.foldl (fun m x => if ltP x m = true then x else m) m = m ∨ s.foldl (fun m x => if ltP x m = true then x else m) m ∈ s) ∧ (ltP m (s.foldl (fun m x => if ltP x m = true then x else m) m) = false) ∧ ∀ x ∈ s, ltP x (s.foldl (fun m x => if ltP x m = true then x else m) m) = false
  | [], m => ⟨.inl rfl, ltP_irrefl m, by simp⟩
  | x :: s, m => by
    rw [List.foldl_cons]
    have h := rfirst_fold s (if ltP x m = true then x else m)
    generalize s.foldl (fun m x => if ltP x m = true then x else m) (if ltP x m = true then x else m) = r at *
    obtain ⟨h1, h2, h3⟩ := h
    by_cases c : ltP x m = true
    · rw [if_pos c] at h1 h2
      refine ⟨.inr ?_, ?_, fun y hy => ?_⟩
      · rcases h1 with h1 | h1
        · rw [h1]; simp
        · exact List.mem_cons_of_mem _ h1
      · cases hq : ltP m r with
        | false => rfl
        | true => have := ltP_trans c hq; rw [h2] at this; cases this
      · rcases List.mem_cons.1 hy with rfl | hy
        · exact h2
        · exact h3 y hy
    · rw [if_neg c] at h1 h2
      refine ⟨?_, h2, fun y hy => ?_⟩
      · rcases h1 with h1 | h1
        · exact .inl h1
        · exact .inr (List.mem_cons_of_mem _ h1)
      · rcases List.mem_cons.1 hy with rfl | hy
        · cases hq : ltP y r with
          | false => rfl
          | true =>
            -- y < r, not y < m, not m < r
            exfalso
            cases hm : ltP m y with
            | true => have := ltP_trans hm hq; rw [h2] at this; cases this
            | false =>
              have e := ltP_total hm (by simpa using c)
              subst e
              rw [h2] at hq; cases hq
        · exact h3 y hy
theorem rfirst_eq {l : List Pt} {a : Pt} (ha : a ∈ l) (hm : ∀ x ∈ l, ltP x a = false) : rfirst l = a := by
  have h := rfirst_fold l (at_ l 0)
  unfold rfirst
  have hat : at_ l 0 ∈ l := by
    cases l with
    | nil => simp at ha
    | cons b l => simp [at_]
  generalize l.foldl (fun m x => if ltP x m = true then x else m) (at_ l 0) = r at *
  obtain ⟨h1, h2, h3⟩ := h
  have hr : r ∈ l := by rcases h1 with h1 | h1; rw [h1]; exact hat; exact h1
  exact ltP_total (hm r hr) (h3 a ha)
def rhullF (l : List Pt) : List Pt := rgo l (rfirst l) (l.length + 1) [rfirst l]
/-- What makes a list the hull of the points l. -/
structure IsH (l H : List Pt) (a : Pt) (t : List Pt) : Prop where
  eq : H = a :: t
  nodup : H.Nodup
  low : ∀ x ∈ l, ltP x a = false
  sub : ∀ x ∈ H, x ∈ l
  path : t ≠ [] → Adj (NX l) (a :: (t ++ [a]))
  one : t = [] → ∀ x ∈ l, x = a
theorem rhull_is {l H : List Pt} {a : Pt} {t : List Pt} (h : IsH l H a t) : rhullF l = H := by
  obtain ⟨rfl, hn, hlow, hsub, hpath, hone⟩ := h
  have ha := hsub a (by simp)
  unfold rhullF
  rw [rfirst_eq ha hlow]
  have hlen := List.Nodup.length_le_of_subset hn (fun x hx => hsub x hx)
  rw [List.length_cons] at hlen
  by_cases ht : t = []
  · subst ht
    unfold rgo
    have e : rnext l (lastP [a]) = a := rnext_all l (hone rfl)
    rw [if_pos e]
  · exact rgo_path t [] a (l.length + 1) (hpath ht) (fun g => (List.nodup_cons.1 hn).1 g) (by omega)
theorem NX.mono {l m : List Pt} {p q : Pt} (h : NX l p q) (hq : q ∈ m) (hm : ∀ x ∈ m, x ∈ l) : NX m p q := ⟨hq, h.2.1, fun x hx => h.2.2 x (hm x hx)⟩
theorem Adj.mem {R T : Pt → Pt → Prop} : ∀ {l : List Pt}, Adj R l → (∀ p q, p ∈ l → q ∈ l → R p q → T p q) → Adj T l
  | [], _, _ => trivial
  | [_], _, _ => trivial
  | p :: q :: r, h, hm => ⟨hm p q (by simp) (by simp) h.1, Adj.mem h.2 (fun x y hx hy => hm x y (List.mem_cons_of_mem _ hx) (List.mem_cons_of_mem _ hy))⟩
theorem IsH.mono {l m H : List Pt} {a : Pt} {t : List Pt} (h : IsH l H a t) (hm : ∀ x ∈ m, x ∈ l) (hH : ∀ x ∈ H, x ∈ m) : IsH m H a t := by
  obtain ⟨rfl, hn, hlow, hsub, hpath, hone⟩ := h
  refine ⟨rfl, hn, fun x hx => hlow x (hm x hx), hH, fun ht => ?_, fun ht x hx => hone ht x (hm x hx)⟩
  refine (hpath ht).mem (fun p q _ hq g => g.mono ?_ hm)
  have : q ∈ a :: t := by
    simp only [List.mem_cons, List.mem_append, List.mem_singleton, List.not_mem_nil, or_false] at hq ⊢
    rcases hq with h | h | h
    · exact .inl h
    · exact .inr h
    · exact .inl h
  exact hH q this
theorem IsH.self {l H : List Pt} {a : Pt} {t : List Pt} (h : IsH l H a t) : IsH H H a t := h.mono h.sub (fun _ hx => hx)
end Go.Av

set_option maxHeartbeats 8000000
set_option exponentiation.threshold 100000
set_option maxRecDepth 100000
set_option linter.unusedVariables false
set_option linter.unusedSimpArgs false
namespace Go.Av
open Go Go.Proofs
/-! The chain's result is a hull. -/
theorem dupF_has : ∀ (l : List Pt) (prev : Option Pt) (p : Pt), p ∈ l → p ∈ dupF prev l ∨ prev = some p
  | q :: l, prev, p, h => by
    unfold dupF
    split
    · next e =>
      rcases List.mem_cons.1 h with rfl | h
      · exact .inr e
      · rcases dupF_has l (some q) p h with g | g
        · exact .inl g
        · exact .inr (by rw [e]; exact g)
    · rcases List.mem_cons.1 h with rfl | h
      · exact .inl (by simp)
      · rcases dupF_has l (some q) p h with g | g
        · exact .inl (List.mem_cons_of_mem _ g)
        · cases g; exact .inl (by simp)
theorem unq_mem {l : List Pt} {p : Pt} : p ∈ unq l ↔ p ∈ l := by
  constructor
  · intro h; exact (srt_perm l).mem_iff.1 (dupF_mem _ _ p h)
  · intro h
    rcases dupF_has (srt l) none p ((srt_perm l).mem_iff.2 h) with g | g
    · exact g
    · cases g
theorem dupF_up : ∀ (l : List Pt) (prev : Option Pt), upP l → (∀ v, prev = some v → ∀ q ∈ l, ltP q v = false) → (dupF prev l).Pairwise (fun p q => ltP p q = true) ∧ ∀ v, prev = some v → ∀ q ∈ dupF prev l, ltP v q = true
  | [], prev, _, _ => ⟨List.Pairwise.nil, fun v _ q hq => by simp [dupF] at hq⟩
  | p :: l, prev, hu, hv => by
    have ih := dupF_up l (some p) hu.2 (fun v e q hq => by cases e; exact hu.1 q hq)
    unfold dupF
    split
    · next e =>
      refine ⟨ih.1, fun v hv' q hq => ?_⟩
      rw [e] at hv'
      exact ih.2 v hv' q hq
    · next e =>
      refine ⟨List.pairwise_cons.2 ⟨ih.2 p rfl, ih.1⟩, fun v hv' q hq => ?_⟩
      have hvp : ltP v p = true := by
        cases g : ltP v p with
        | true => rfl
        | false =>
          have := ltP_total g (hv v hv' p (by simp))
          subst this
          exact absurd hv' e
      rcases List.mem_cons.1 hq with rfl | hq
      · exact hvp
      · exact ltP_trans hvp (ih.2 p rfl q hq)
theorem unq_up (l : List Pt) : (unq l).Pairwise (fun p q => ltP p q = true) := (dupF_up (srt l) none (srt_up l) (fun v e => by cases e)).1
theorem pw_mem {R T : Pt → Pt → Prop} {l : List Pt} (h : l.Pairwise R) (hm : ∀ p q, p ∈ l → q ∈ l → R p q → T p q) : l.Pairwise T := by
  induction l with
  | nil => exact List.Pairwise.nil
  | cons a l ih =>
    have h' := List.pairwise_cons.1 h
    refine List.pairwise_cons.2 ⟨fun q hq => hm a q (by simp) (List.mem_cons_of_mem _ hq) (h'.1 q hq), ih h'.2 (fun p q hp hq => hm p q (List.mem_cons_of_mem _ hp) (List.mem_cons_of_mem _ hq))⟩
theorem adj_pw {k : K2} {D : List Pt} : ∀ {l : List Pt}, Adj (Ed k D) l → l.Pairwise (fun p q => lf k p < lf k q)
  | [], _ => List.Pairwise.nil
  | [_], _ => by simp
  | p :: q :: r, h => by
    have ih := adj_pw h.2
    refine List.pairwise_cons.2 ⟨fun x hx => ?_, ih⟩
    have h1 : lf k p < lf k q := h.1.1
    rcases List.mem_cons.1 hx with rfl | hx
    · exact h1
    · have := (List.pairwise_cons.1 ih).1 x hx
      omega
theorem pw_nodup {k : K2} {l : List Pt} (h : l.Pairwise (fun p q => lf k p < lf k q)) : l.Nodup := h.imp (fun {a b} g e => by rw [e] at g; omega)
theorem bend {k : K2} {S : List Pt} {a p x z : Pt} (h : Ed k S p x) (ha : a ∈ S) (hz : z ∈ S) (h1 : lf k a ≤ lf k p) (h2 : lf k x < lf k z) : 0 < crossP a x z := by
  have g1 := h.2 a ha
  have g2 := h.2 z hz
  have g3 : 0 < crossP p x z := by
    by_cases e : crossP p x z = 0
    · have := g2.2 e; omega
    · have := g2.1; omega
  refine mul_pos_of (v := lf k x - lf k p) (by have := h.1; omega) ?_
  rw [idN]
  exact pos2r g1.1 (by omega) g3 (by have := h.1; omega)
theorem Ed.nx {S : List Pt} {p q : Pt} (h : Ed k0 S p q) (hq : q ∈ S) : NX S p q := ⟨hq, by have := h.1; omega, fun x hx => ⟨(h.2 x hx).1, fun e => .inl ((h.2 x hx).2 e)⟩⟩
theorem Ed.nx1 {S : List Pt} {p q : Pt} (h : Ed k1 S p q) (hq : q ∈ S) : NX S p q := by
  have h1 := lf_neg p
  have h2 := lf_neg q
  refine ⟨hq, by have := h.1; omega, fun x hx => ⟨(h.2 x hx).1, fun e => .inr ?_⟩⟩
  have := (h.2 x hx).2 e
  have h3 := lf_neg x
  omega
theorem adj_last {R : Pt → Pt → Prop} {S : List Pt} {l : List Pt} (h : Adj R l) (hs : ∀ y ∈ l, y ∈ S) : Adj (fun p q => R p q ∧ q ∈ S) l := h.mem (fun p q _ hq g => ⟨g, hs q hq⟩)
/-- Two chains, there and back, are a hull of the list. -/
theorem two_chains {S A B : List Pt} {a z : Pt} (hA : Chn k0 S A a z) (hB : Chn k1 S B z a) (hlow : ∀ x ∈ S, lf k0 a ≤ lf k0 x) (haz : lf k0 a < lf k0 z) (hhi : ∀ x ∈ S, lf k0 x ≤ lf k0 z) :
    ∃ t, t ≠ [] ∧ A.dropLast ++ B.dropLast = a :: t ∧ (A.dropLast ++ B.dropLast).Nodup ∧ (∀ x ∈ A.dropLast ++ B.dropLast, x ∈ S) ∧ Adj (NX S) (a :: (t ++ [a])) := by
  obtain ⟨rA, eA⟩ := hA.head
  obtain ⟨r1, e1⟩ := hA.last
  obtain ⟨rB, eB⟩ := hB.head
  obtain ⟨r2, e2⟩ := hB.last
  have hAp := adj_pw hA.adj
  have hBp := adj_pw hB.adj
  have haS : a ∈ S := hA.sub a (by rw [eA]; simp)
  have hzS : z ∈ S := hB.sub z (by rw [eB]; simp)
  have d1 : A.dropLast = r1 := by rw [e1, List.dropLast_concat]
  have d2 : B.dropLast = r2 := by rw [e2, List.dropLast_concat]
  rw [d1, d2]
  have hr1 : ∃ s1, r1 = a :: s1 := by
    cases r1 with
    | nil => rw [eA] at e1; simp at e1; rw [e1.1] at haz; omega
    | cons b s => rw [eA] at e1; simp at e1; exact ⟨s, by rw [e1.1]⟩
  obtain ⟨s1, rfl⟩ := hr1
  have hr2 : ∃ s2, r2 = z :: s2 := by
    cases r2 with
    | nil => rw [eB] at e2; simp at e2; rw [e2.1] at haz; omega
    | cons b s => rw [eB] at e2; simp at e2; exact ⟨s, by rw [e2.1]⟩
  obtain ⟨s2, rfl⟩ := hr2
  have m1 : ∀ x ∈ a :: s1, x ∈ A := fun x hx => by rw [e1]; exact List.mem_append_left _ hx
  have m2 : ∀ x ∈ z :: s2, x ∈ B := fun x hx => by rw [e2]; exact List.mem_append_left _ hx
  have lz : ∀ x ∈ a :: s1, lf k0 x < lf k0 z := fun x hx => by
    rw [e1] at hAp
    exact (List.pairwise_append.1 hAp).2.2 x hx z (by simp)
  have la : ∀ y ∈ z :: s2, lf k0 a < lf k0 y := fun y hy => by
    rw [e2] at hBp
    have := (List.pairwise_append.1 hBp).2.2 y hy a (by simp)
    have h1 := lf_neg a
    have h2 := lf_neg y
    omega
  refine ⟨s1 ++ z :: s2, by simp, rfl, List.nodup_append.2 ⟨?_, ?_, fun x hx y hy e => ?_⟩, fun x hx => ?_, ?_⟩
  · have := pw_nodup hAp
    rw [e1] at this
    exact (List.nodup_append.1 this).1
  · have := pw_nodup hBp
    rw [e2] at this
    exact (List.nodup_append.1 this).1
  · subst e
    have hxa := la x hy
    have hxz := lz x hx
    have q1 : x ∈ rA := by
      have := m1 x hx
      rw [eA] at this
      rcases List.mem_cons.1 this with rfl | g
      · omega
      · exact g
    have q2 : x ∈ rB := by
      have := m2 x hy
      rw [eB] at this
      rcases List.mem_cons.1 this with rfl | g
      · omega
      · exact g
    have hadA := hA.adj
    rw [eA] at hadA
    obtain ⟨p, hp, hE⟩ := hadA.pred q1
    have hadB := hB.adj
    rw [eB] at hadB
    obtain ⟨p', hp', hE'⟩ := hadB.pred q2
    have c1 := bend hE haS hzS (hlow p (hA.sub p (by rw [eA]; exact hp))) hxz
    have n1 := lf_neg z
    have n2 := lf_neg p'
    have n3 := lf_neg x
    have n4 := lf_neg a
    have h5 := hhi p' (hB.sub p' (by rw [eB]; exact hp'))
    have c2 := bend hE' hzS haS (by omega) (by omega)
    have c3 := cr_rot z x a
    have c4 := cr_rot x a z
    have c5 := cr_swap a x z
    omega
  · rcases List.mem_append.1 hx with hx | hx
    · exact hA.sub x (m1 x hx)
    · exact hB.sub x (m2 x hx)
  · have hX : Adj (NX S) A := (adj_last hA.adj hA.sub).imp (fun p q g => g.1.nx g.2)
    have hY : Adj (NX S) B := (adj_last hB.adj hB.sub).imp (fun p q g => g.1.nx1 g.2)
    rw [e1] at hX
    rw [e2] at hY
    have := Adj.glue (l := a :: s1) (p := z) (r := s2 ++ [a]) hY hX
    rw [show a :: (s1 ++ z :: s2 ++ [a]) = (a :: s1) ++ z :: (s2 ++ [a]) by simp]
    exact this
theorem sm_mem {l : List Pt} (h : l.all smB = true) {p : Pt} (hp : p ∈ l) : sm p := by
  have := List.all_eq_true.1 h p hp
  simpa [smB] using this
theorem hullF_gen {l : List Pt} (h2 : 2 ≤ (unq l).length) : hullF l = (chnF (unq l)).dropLast ++ (chnF (unq l).reverse).dropLast := by
  unfold hullF
  by_cases h3 : (unq l).length < 3
  · rw [if_pos h3]
    match hq : unq l, h2, h3 with
    | [a, b], _, _ => rfl
  · rw [if_neg h3]
theorem hull_is {l : List Pt} (h0 : l ≠ []) (hs : l.all smB = true) : ∃ a t, IsH l (hullF l) a t := by
  have hup := unq_up l
  have hmem := @unq_mem l
  have hsm : ∀ x ∈ unq l, sm x := fun x hx => sm_mem hs (hmem.1 hx)
  by_cases h2 : 2 ≤ (unq l).length
  · rw [hullF_gen h2]
    generalize unq l = S at *
    have hlt : S.Pairwise (fun p q => lf k0 p < lf k0 q) := pw_mem hup (fun p q hp hq g => (ltP_lf (hsm p hp) (hsm q hq)).1 g)
    have hgt : S.reverse.Pairwise (fun p q => lf k1 p < lf k1 q) := by
      rw [List.pairwise_reverse]
      exact hlt.imp (fun {p q} g => by rw [lf_neg, lf_neg]; omega)
    obtain ⟨a, S1, rfl⟩ : ∃ a S1, S = a :: S1 := by cases S with
      | nil => simp at h2
      | cons a S1 => exact ⟨a, S1, rfl⟩
    obtain ⟨z, hz⟩ : ∃ z, (a :: S1).getLast? = some z := by
      cases hq : (a :: S1).getLast? with
      | none => exact absurd (List.getLast?_eq_none_iff.1 hq) (by simp)
      | some z => exact ⟨z, rfl⟩
    obtain ⟨S2, hS2⟩ : ∃ S2, (a :: S1).reverse = z :: S2 := by
      have e1 : (a :: S1).reverse.head? = some z := by rw [List.head?_reverse]; exact hz
      cases hq : (a :: S1).reverse with
      | nil => rw [hq] at e1; cases e1
      | cons b s => rw [hq] at e1; simp at e1; exact ⟨s, by rw [e1]⟩
    have hA := chn_of hlt hz
    have hl2 : (z :: S2).getLast? = some a := by rw [← hS2, List.getLast?_reverse]; rfl
    have hgt2 := hgt
    rw [hS2] at hgt2
    have hB := chn_of hgt2 hl2
    rw [← hS2] at hB
    have hB' : Chn k1 (a :: S1) (chnF (a :: S1).reverse) z a := ⟨hB.adj.imp (fun p q g => ⟨g.1, fun x hx => g.2 x (List.mem_reverse.2 hx)⟩), hB.head, hB.last, fun y hy => List.mem_reverse.1 (hB.sub y hy)⟩
    have hp1 := List.pairwise_cons.1 hlt
    have hlow : ∀ x ∈ a :: S1, lf k0 a ≤ lf k0 x := fun x hx => by
      rcases List.mem_cons.1 hx with rfl | hx
      · exact Int.le_refl _
      · exact Int.le_of_lt (hp1.1 x hx)
    have hzm : z ∈ a :: S1 := List.mem_of_getLast? hz
    have hp2 := List.pairwise_cons.1 hgt2
    have hhi : ∀ x ∈ a :: S1, lf k0 x ≤ lf k0 z := fun x hx => by
      have : x ∈ z :: S2 := by rw [← hS2]; exact List.mem_reverse.2 hx
      rcases List.mem_cons.1 this with rfl | hx
      · exact Int.le_refl _
      · have := hp2.1 x hx
        rw [lf_neg, lf_neg] at this
        omega
    have haz : lf k0 a < lf k0 z := by
      obtain ⟨b, S3, rfl⟩ : ∃ b S3, S1 = b :: S3 := by cases S1 with
        | nil => simp at h2
        | cons b S3 => exact ⟨b, S3, rfl⟩
      have g1 := hp1.1 b (by simp)
      have g2 := hhi b (by simp)
      omega
    obtain ⟨t, t1, t2, t3, t4, t5⟩ := two_chains hA hB' hlow haz hhi
    refine ⟨a, t, t2, t3, fun x hx => ?_, fun x hx => hmem.1 (t4 x hx), fun _ => ?_, fun e => absurd e t1⟩
    · have hx' := hmem.2 hx
      have g := hlow x hx'
      cases hq : ltP x a with
      | false => rfl
      | true => have := (ltP_lf (hsm x hx') (hsm a (by simp))).1 hq; omega
    · exact t5.imp (fun p q g => g.mono (hmem.1 g.1) (fun x hx => hmem.2 hx))
  · have hne : unq l ≠ [] := fun e => by
      cases l with
      | nil => exact h0 rfl
      | cons b l => have := (hmem (p := b)).2 (by simp); rw [e] at this; simp at this
    unfold hullF
    rw [if_pos (by omega)]
    match hq : unq l, hne, h2 with
    | [a], _, _ =>
      rw [hq] at hmem
      refine ⟨a, [], rfl, by simp, fun x hx => ?_, fun x hx => hmem.1 hx, fun e => absurd rfl e, fun _ x hx => by simpa using hmem.2 hx⟩
      have : x = a := by simpa using hmem.2 hx
      rw [this]
      exact ltP_irrefl a
    | _ :: _ :: _, _, h2 => simp at h2
/-- The chain of turns and the wrapping give the same corners. -/
theorem hull_eq {l : List Pt} (h0 : l ≠ []) (hs : l.all smB = true) : rhullF l = hullF l := by
  obtain ⟨a, t, h⟩ := hull_is h0 hs
  exact rhull_is h
/-- The hull depends only on the points. -/
theorem hull_uni {l m : List Pt} (h0 : l ≠ []) (hs : l.all smB = true) (hm : m.all smB = true) (h1 : ∀ x ∈ m, x ∈ l) (h2 : ∀ x ∈ hullF l, x ∈ m) : hullF m = hullF l := by
  obtain ⟨a, t, h⟩ := hull_is h0 hs
  have hk := h.mono h1 h2
  have hm0 : m ≠ [] := fun e => by
    have := h2 a (by rw [h.eq]; simp)
    rw [e] at this
    simp at this
  rw [← hull_eq hm0 hm]
  exact rhull_is hk
theorem hull_sub {l : List Pt} (h0 : l ≠ []) (hs : l.all smB = true) : ∀ x ∈ hullF l, x ∈ l := by
  obtain ⟨a, t, h⟩ := hull_is h0 hs
  exact h.sub
theorem hull_all {l : List Pt} (h0 : l ≠ []) (hs : l.all smB = true) : (hullF l).all smB = true := List.all_eq_true.2 (fun x hx => List.all_eq_true.1 hs x (hull_sub h0 hs x hx))
theorem hull_idem {l : List Pt} (h0 : l ≠ []) (hs : l.all smB = true) : hullF (hullF l) = hullF l := hull_uni h0 hs (hull_all h0 hs) (hull_sub h0 hs) (fun _ hx => hx)
end Go.Av
