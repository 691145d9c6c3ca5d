import Derived.Test.YtckngipgcnhfpaaTy
import Derived.Test.YtckngipgcnhfpaaPl
set_option maxHeartbeats 4000000
set_option linter.unusedVariables false
set_option linter.unusedSimpArgs false
namespace Go.Av
open Go Go.Proofs
abbrev Li (l : List Int) : PV := .si false .u32 l
abbrev FLi (l : List Int) : PV := .si true .u32 l
abbrev M (n : Nat) : PV := .si false .u32 (limbs n)
abbrev FM (n : Nat) : PV := .si true .u32 (limbs n)
abbrev I (n : Int) : PV := .v (.int .i64 n)
abbrev U (n : Int) : PV := .v (.int .u32 n)
abbrev UU (n : Int) : PV := .v (.int .u64 n)
abbrev Bo (b : Bool) : PV := .v (.bool b)

theorem rd_limbs (n : Nat) {i : Int} (h : 0 ≤ i) : rd (limbs n) i = ((dg n i.toNat : Nat) : Int) := by
  have := rd_wf (wf_limbs n) h
  rwa [val_limbs] at this

/-! limbs.limb -/
theorem limb_c (l : List Int) (i : Int) (h0 : 0 ≤ i) : Con Try.prog 87 [Li l, I i] (U (rd l i)) := by
  refine con_of Try.func87 rfl rfl rfl rfl rfl ?_
  by_cases h : i < l.length
  · repeat (first | refine seq_ ?_ | refine region_ ?_ | refine nil_ ?_ | refine ret_ ?_ | refine cond_t rfl ?_ | refine stepY (y_move rfl) rfl ?_ | refine stepY (y_assign rfl) rfl ?_ | refine stepY (y_load_rc1 rfl rfl) rfl ?_ | refine stepY (y_len_si rfl) rfl ?_ | refine stepY (y_index_si rfl rfl (by omega) (by omega)) rfl ?_ | refine stepY (y_cmpT rfl rfl rfl (by omega)) rfl ?_)
    ((apply fin_r); (repeat (first | exact .nil | exact .tmp rfl | apply ResL.cons)); (repeat (exact .refl _)))
  · have hz : rd l i = 0 := by unfold rd; rw [List.getD_eq_getElem?_getD, List.getElem?_eq_none (by omega)]; rfl
    repeat (first | refine seq_ ?_ | refine region_ ?_ | refine nil_ ?_ | refine skip_ ?_ | refine ret_ ?_ | refine cond_f rfl ?_ | refine stepY (y_move rfl) rfl ?_ | refine stepY (y_assign rfl) rfl ?_ | refine stepY (y_len_si rfl) rfl ?_ | refine stepY (y_cmpF rfl rfl rfl (by omega)) rfl ?_)
    rw [hz]
    ((apply fin_r); (repeat (first | exact .nil | exact .tmp rfl | apply ResL.cons)); (repeat (exact .refl _)))

/-! limbs.Trim -/
theorem Trim_c (l : List Int) (hw : wf l) : Con Try.prog 79 [Li l] (M (val l)) := by
  refine con_of Try.func79 rfl rfl rfl rfl rfl ?_
  refine len_C (i := 0) rfl (fun hL => ?_)
  repeat (first | refine seq_ ?_ | refine region_ ?_ | refine nil_ ?_ | refine block_ ?_ | refine stepY (y_assign rfl) rfl ?_)
  refine loop_ (α := Nat) (fun k => ([(0, .p (Li (l.take k)))], [])) (fun k => k ≤ l.length ∧ val (l.take k) = val l) id l.length ⟨Nat.le_refl _, by simp⟩ ?_ ?_ ?_
  · simp only [List.take_length]; (repeat (first | exact sub_nil | refine sub_cons rfl ?_))
  · (repeat (exact subH_nil))
  intro k ⟨hk, hv⟩
  have hlen : (l.take k).length = k := by simp; omega
  have hwk : wf (l.take k) := fun x hx => hw x (List.mem_of_mem_take hx)
  by_cases h0 : (0 : Int) < ((l.take k).length : Int)
  · by_cases h1 : rd (l.take k) (((l.take k).length : Int) - 1) = 0
    · repeat (first | refine seq_ ?_ | refine region_ ?_ | refine nil_ ?_ | refine skip_ ?_ | refine block_ ?_ | refine cond_t rfl ?_ | refine guard_t rfl rfl rfl ?_ | refine stepY (y_move rfl) rfl ?_ | refine stepY (y_assign rfl) rfl ?_ | refine stepY (y_load_rc1 rfl rfl) rfl ?_ | refine stepY (y_len_si rfl) rfl ?_ | refine stepY (y_pick_t rfl rfl) rfl ?_ | refine stepY (y_index_si rfl rfl (by omega) (by omega)) rfl ?_ | refine stepY (y_slice_si_h rfl rfl (by omega) (by omega)) rfl ?_ | refine stepY (y_binn rfl rfl rfl (by simp only [InK, loK, hiK]; omega)) rfl ?_ | refine stepY (y_cmpT rfl rfl rfl (by omega)) rfl ?_ | refine stepY (y_cmpT rfl rfl rfl (by omega)) rfl ?_)
      obtain ⟨j, rfl⟩ : ∃ j, k = j + 1 := ⟨k - 1, by omega⟩
      have hj : (((l.take (j + 1)).length : Int) - 1).toNat = j := by omega
      rw [hj, List.take_take, Nat.min_eq_left (by omega)]
      refine ⟨j, ⟨by omega, ?_⟩, Nat.lt_succ_self j, ?_, ?_⟩
      · rw [← hv, List.take_add_one, val_append, List.getElem?_eq_getElem (by omega)]
        unfold rd at h1
        rw [hj, List.getD_eq_getElem?_getD, List.getElem?_take_of_lt (by omega), List.getElem?_eq_getElem (by omega)] at h1
        simp only [Option.getD_some] at h1
        simp [h1, val]
      · (repeat (first | exact sub_nil | refine sub_cons rfl ?_))
      · (repeat (exact subH_nil))
    · repeat (first | refine seq_ ?_ | refine region_ ?_ | refine nil_ ?_ | refine exit_ ?_ | refine ret_ ?_ | refine cond_f rfl ?_ | refine guard_t rfl rfl rfl ?_ | refine stepY (y_move rfl) rfl ?_ | refine stepY (y_assign rfl) rfl ?_ | refine stepY (y_load_rc1 rfl rfl) rfl ?_ | refine stepY (y_len_si rfl) rfl ?_ | refine stepY (y_pick_t rfl rfl) rfl ?_ | refine stepY (y_index_si rfl rfl (by omega) (by omega)) rfl ?_ | refine stepY (y_binn rfl rfl rfl (by simp only [InK, loK, hiK]; omega)) rfl ?_ | refine stepY (y_cmpF rfl rfl rfl (by omega)) rfl ?_ | refine stepY (y_cmpT rfl rfl rfl (by omega)) rfl ?_)
      rw [← hv]; unfold M; rw [limbs_val hwk (.inr (by unfold rd at h1; rwa [show (((l.take k).length : Int) - 1).toNat = (l.take k).length - 1 by omega] at h1))]
      ((apply fin_r); (repeat (first | exact .nil | exact .tmp rfl | apply ResL.cons)); (repeat (exact .refl _)))
  · repeat (first | refine seq_ ?_ | refine region_ ?_ | refine nil_ ?_ | refine exit_ ?_ | refine ret_ ?_ | refine cond_f rfl ?_ | refine guard_f rfl rfl rfl rfl ?_ | refine stepY (y_move rfl) rfl ?_ | refine stepY (y_assign rfl) rfl ?_ | refine stepY (y_len_si rfl) rfl ?_ | refine stepY (y_pick_f rfl rfl) rfl ?_ | refine stepY (y_cmpF rfl rfl rfl (by omega)) rfl ?_)
    have : l.take k = [] := List.eq_nil_of_length_eq_zero (by omega)
    rw [← hv]; unfold M; rw [this]
    ((apply fin_r); (repeat (first | exact .nil | exact .tmp rfl | apply ResL.cons)); (repeat (exact .refl _)))
end Go.Av
