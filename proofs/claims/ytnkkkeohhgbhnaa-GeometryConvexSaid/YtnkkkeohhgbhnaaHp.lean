/- Contracts behind a law: no conditions beyond those in each statement. -/
import Derived.Test.YtnkkkeohhgbhnaaHo
import Derived.Test.YtnkkkeohhgbhnaaJ6
import Derived.Test.YtnkkkeohhgbhnaaJ2
set_option maxHeartbeats 8000000
set_option exponentiation.threshold 100000
set_option maxRecDepth 100000
set_option linter.unusedVariables false
set_option linter.unusedSimpArgs false
namespace Go.Av
open Go Go.Proofs

open Go.RowKit
/-! slices.Index, slices.Equal, slices.Clone at points -/
def ix : List Pt → Pt → Nat
  | [], _ => 0
  | q :: l, p => if q = p then 0 else ix l p + 1
theorem ix_lt : ∀ {l : List Pt} {p : Pt}, p ∈ l → ix l p < l.length
  | q :: l, p, h => by
    unfold ix
    split
    · simp
    · next e =>
      have := ix_lt (l := l) (p := p) (by rcases List.mem_cons.1 h with h | h; exact absurd h.symm e; exact h)
      simp only [List.length_cons]; omega
theorem at_cons (q : Pt) (l : List Pt) (k : Nat) : at_ (q :: l) ((k + 1 : Nat) : Int) = at_ l (k : Int) := by
  unfold at_
  rw [Int.toNat_natCast, Int.toNat_natCast]
  rfl
theorem ix_at : ∀ {l : List Pt} {p : Pt}, p ∈ l → at_ l (ix l p : Int) = p
  | q :: l, p, h => by
    unfold ix
    split
    · next e => rw [← e]; rfl
    · next e =>
      rw [at_cons]
      exact ix_at (by rcases List.mem_cons.1 h with h | h; exact absurd h.symm e; exact h)
theorem ix_min : ∀ {l : List Pt} {p : Pt} {k : Nat}, k < l.length → at_ l (k : Int) = p → ix l p ≤ k
  | q :: l, p, 0, _, h => by
    have : q = p := h
    unfold ix
    rw [if_pos this]
    exact Nat.le_refl _
  | q :: l, p, k + 1, hk, h => by
    rw [at_cons] at h
    unfold ix
    split
    · omega
    · have := ix_min (l := l) (p := p) (k := k) (by simpa using hk) h
      omega
theorem Index_c (l : List Pt) (p : Pt) (hp : p ∈ l) : Con Try.prog 36 [.ss false 2 (pts l), pt p] (I (ix l p : Nat)) := by
  refine con_of Try.func36 rfl rfl rfl (by simp [noTs, noT, noT_pts]) rfl ?_
  refine len_Cs (i := 0) rfl (fun hL0 => ?_)
  have hL : l.length < 281474976710656 := by simpa using hL0
  have hlt := ix_lt hp
  have hat := ix_at hp
  repeat (first | refine seq_ ?_ | refine region_ ?_ | refine nil_ ?_ | refine block_ ?_ | refine stepY (y_move rfl) rfl ?_ | refine stepY (y_assign rfl) rfl ?_ | refine stepY (y_len_ps rfl) rfl ?_ | refine stepE (e_box rfl rfl rfl rfl rfl rfl) ?_)
  refine loop_ (α := Nat) (fun k => ([(0, .p (.ss false 2 (pts l))), (3, .ptr 3 0), (7, .p (I l.length)), (8, .p (I k))], [(3, .bx [I p.1, I p.2])])) (fun k => k ≤ ix l p) (fun k => l.length - k) 0 (by omega) ?_ ?_ ?_
  · (repeat (first | exact sub_nil | refine sub_cons rfl ?_))
  · (repeat (first | exact subH_nil | refine subH_cons rfl ?_))
  intro k hk
  have h : k < l.length := by omega
  have hq := eqI_pt p (at_ l (k : Int))
  by_cases e : p = at_ l (k : Int)
  · rw [decide_eq_true e] at hq
    have hm := ix_min (k := k) h e.symm
    have he : ix l p = k := by omega
    rw [he]
    repeat (first | refine seq_ ?_ | refine region_ ?_ | refine nil_ ?_ | refine skip_ ?_ | refine block_ ?_ | refine cond_t rfl ?_ | refine stepY (y_move rfl) rfl ?_ | refine stepY (y_assign rfl) rfl ?_ | refine stepY (y_cmpT rfl rfl rfl (by omega)) rfl ?_)
    refine draw_ [(0, true), (1, true), (2, true), (3, true), (4, true), (5, true)] 1000 [3] mixed (by kernel_rfl) rfl ?_
    ((refine dY rfl (y_loadA rfl rfl rfl) rfl rfl rfl rfl ?_); refine dY rfl (y_move rfl) rfl rfl rfl rfl ?_; refine dY rfl (y_move rfl) rfl rfl rfl rfl ?_; refine dY rfl (y_index_ps rfl rfl (by omega) (by omega)) rfl rfl rfl rfl ?_; refine dY rfl (y_load_rcA rfl rfl) rfl rfl rfl rfl ?_; refine dY rfl (y_eqI rfl rfl rfl rfl rfl rfl (by assumption)) rfl rfl rfl rfl ?_; refine dEnd ?_)
    repeat (first | refine seq_ ?_ | refine region_ ?_ | refine nil_ ?_ | refine ret_ ?_ | refine cond_t rfl ?_ | refine stepY (y_move rfl) rfl ?_ | refine stepY (y_assign rfl) rfl ?_)
    ((apply fin_r); (repeat (first | exact .nil | exact .tmp rfl | apply ResL.cons)); (repeat (exact .refl _)))
  · rw [decide_eq_false e] at hq
    have hne : k ≠ ix l p := fun g => e (by rw [g]; exact hat.symm)
    repeat (first | refine seq_ ?_ | refine region_ ?_ | refine nil_ ?_ | refine skip_ ?_ | refine block_ ?_ | refine cond_t rfl ?_ | refine stepY (y_move rfl) rfl ?_ | refine stepY (y_assign rfl) rfl ?_ | refine stepY (y_cmpT rfl rfl rfl (by omega)) rfl ?_)
    refine draw_ [(0, true), (1, true), (2, true), (3, true), (4, true), (5, true)] 1000 [3] mixed (by kernel_rfl) rfl ?_
    ((refine dY rfl (y_loadA rfl rfl rfl) rfl rfl rfl rfl ?_); refine dY rfl (y_move rfl) rfl rfl rfl rfl ?_; refine dY rfl (y_move rfl) rfl rfl rfl rfl ?_; refine dY rfl (y_index_ps rfl rfl (by omega) (by omega)) rfl rfl rfl rfl ?_; refine dY rfl (y_load_rcA rfl rfl) rfl rfl rfl rfl ?_; refine dY rfl (y_eqI rfl rfl rfl rfl rfl rfl (by assumption)) rfl rfl rfl rfl ?_; refine dEnd ?_)
    repeat (first | refine region_ ?_ | refine nil_ ?_ | refine skip_ ?_ | refine cond_f rfl ?_ | refine stepY (y_move rfl) rfl ?_ | refine stepY (y_binn rfl rfl rfl (by simp only [InK, loK, hiK]; omega)) rfl ?_)
    refine ⟨k + 1, by omega, by omega, ?_, ?_⟩
    · (repeat (first | exact sub_nil | refine sub_cons rfl ?_))
    · (repeat (first | exact subH_nil | refine subH_cons rfl ?_))
theorem Equal_c (a b : List Pt) : Con Try.prog 37 [.ss false 2 (pts a), .ss false 2 (pts b)] (Bo (decide (a = b))) := by
  refine con_of Try.func37 rfl rfl rfl (by simp [noTs, noT, noT_pts]) rfl ?_
  refine len_Cs (i := 0) rfl (fun hL0 => ?_)
  have hL : a.length < 281474976710656 := by simpa using hL0
  by_cases hl : a.length = b.length
  · repeat (first | refine seq_ ?_ | refine region_ ?_ | refine nil_ ?_ | refine skip_ ?_ | refine block_ ?_ | refine cond_f rfl ?_ | refine stepY (y_move rfl) rfl ?_ | refine stepY (y_assign rfl) rfl ?_ | refine stepY (y_len_ps rfl) rfl ?_ | refine stepY (y_cmpF rfl rfl rfl (by omega)) rfl ?_)
    refine loop_ (α := Nat) (fun k => ([(0, .p (.ss false 2 (pts a))), (1, .p (.ss false 2 (pts b))), (12, .p (I a.length)), (13, .p (I k))], [])) (fun k => k ≤ a.length ∧ a.take k = b.take k) (fun k => a.length - k) 0 ⟨by omega, rfl⟩ ?_ ?_ ?_
    · (repeat (first | exact sub_nil | refine sub_cons rfl ?_))
    · (repeat (exact subH_nil))
    rintro k ⟨hk, ht⟩
    by_cases h : k < a.length
    · have hq := eqI_pt (at_ a (k : Int)) (at_ b (k : Int))
      by_cases e : at_ a (k : Int) = at_ b (k : Int)
      · rw [decide_eq_true e] at hq
        have ht2 := at_eq hl h ht e
        repeat (first | refine seq_ ?_ | refine region_ ?_ | refine nil_ ?_ | refine skip_ ?_ | refine block_ ?_ | refine cond_t rfl ?_ | refine stepY (y_move rfl) rfl ?_ | refine stepY (y_assign rfl) rfl ?_ | refine stepY (y_cmpT rfl rfl rfl (by omega)) rfl ?_)
        refine draw_ [(0, true), (1, true), (2, true), (3, true), (4, true), (5, true), (6, true), (7, true), (8, true)] 1000 [] mixed (by kernel_rfl) rfl ?_
        ((refine dY rfl (y_move rfl) rfl rfl rfl rfl ?_); refine dY rfl (y_move rfl) rfl rfl rfl rfl ?_; refine dY rfl (y_index_ps rfl rfl (by omega) (by omega)) rfl rfl rfl rfl ?_; refine dY rfl (y_load_rcA rfl rfl) rfl rfl rfl rfl ?_; refine dY rfl (y_move rfl) rfl rfl rfl rfl ?_; refine dY rfl (y_move rfl) rfl rfl rfl rfl ?_; refine dY rfl (y_index_ps rfl rfl (by omega) (by omega)) rfl rfl rfl rfl ?_; refine dY rfl (y_load_rcA rfl rfl) rfl rfl rfl rfl ?_; refine dY rfl (y_neI rfl rfl rfl rfl rfl rfl (by assumption)) rfl rfl rfl rfl ?_; refine dEnd ?_)
        repeat (first | refine region_ ?_ | refine nil_ ?_ | refine skip_ ?_ | refine cond_f rfl ?_ | refine stepY (y_move rfl) rfl ?_ | refine stepY (y_binn rfl rfl rfl (by simp only [InK, loK, hiK]; omega)) rfl ?_)
        refine ⟨k + 1, ⟨by omega, ht2⟩, by omega, ?_, ?_⟩
        · (repeat (first | exact sub_nil | refine sub_cons rfl ?_))
        · (repeat (exact subH_nil))
      · rw [decide_eq_false e] at hq
        rw [decide_eq_false (fun h => e (by rw [h]))]
        repeat (first | refine seq_ ?_ | refine region_ ?_ | refine nil_ ?_ | refine skip_ ?_ | refine block_ ?_ | refine cond_t rfl ?_ | refine stepY (y_move rfl) rfl ?_ | refine stepY (y_assign rfl) rfl ?_ | refine stepY (y_cmpT rfl rfl rfl (by omega)) rfl ?_)
        refine draw_ [(0, true), (1, true), (2, true), (3, true), (4, true), (5, true), (6, true), (7, true), (8, true)] 1000 [] mixed (by kernel_rfl) rfl ?_
        ((refine dY rfl (y_move rfl) rfl rfl rfl rfl ?_); refine dY rfl (y_move rfl) rfl rfl rfl rfl ?_; refine dY rfl (y_index_ps rfl rfl (by omega) (by omega)) rfl rfl rfl rfl ?_; refine dY rfl (y_load_rcA rfl rfl) rfl rfl rfl rfl ?_; refine dY rfl (y_move rfl) rfl rfl rfl rfl ?_; refine dY rfl (y_move rfl) rfl rfl rfl rfl ?_; refine dY rfl (y_index_ps rfl rfl (by omega) (by omega)) rfl rfl rfl rfl ?_; refine dY rfl (y_load_rcA rfl rfl) rfl rfl rfl rfl ?_; refine dY rfl (y_neI rfl rfl rfl rfl rfl rfl (by assumption)) rfl rfl rfl rfl ?_; refine dEnd ?_)
        repeat (first | refine seq_ ?_ | refine region_ ?_ | refine nil_ ?_ | refine ret_ ?_ | refine cond_t rfl ?_ | refine stepY (y_assign rfl) rfl ?_)
        ((apply fin_r); (repeat (first | exact .nil | exact .tmp rfl | apply ResL.cons)); (repeat (exact .refl _)))
    · have e : k = a.length := by omega
      rw [List.take_of_length_le (by omega), List.take_of_length_le (by omega)] at ht
      rw [decide_eq_true ht]
      repeat (first | refine seq_ ?_ | refine region_ ?_ | refine nil_ ?_ | refine exit_ ?_ | refine ret_ ?_ | refine cond_f rfl ?_ | refine stepY (y_assign rfl) rfl ?_ | refine stepY (y_cmpF rfl rfl rfl (by omega)) rfl ?_)
      ((apply fin_r); (repeat (first | exact .nil | exact .tmp rfl | apply ResL.cons)); (repeat (exact .refl _)))
  · rw [decide_eq_false (fun e => hl (by rw [e]))]
    repeat (first | refine seq_ ?_ | refine region_ ?_ | refine nil_ ?_ | refine ret_ ?_ | refine cond_t rfl ?_ | refine stepY (y_move rfl) rfl ?_ | refine stepY (y_assign rfl) rfl ?_ | refine stepY (y_len_ps rfl) rfl ?_ | refine stepY (y_cmpT rfl rfl rfl (by omega)) rfl ?_)
    ((apply fin_r); (repeat (first | exact .nil | exact .tmp rfl | apply ResL.cons)); (repeat (exact .refl _)))
theorem CloneP_c (l : List Pt) (h : 0 < l.length) (hn : l.length ≤ 4096) : ConRM Try.prog 38 [.ss false 2 (pts l)] (.vs 28 2 (pts l)) := by
  refine conRM_of Try.func38 rfl rfl rfl (noT_ps l) rfl (stab_pts _) ?_
  repeat (first | refine seq_ ?_ | refine region_ ?_ | refine nil_ ?_ | refine stepY (y_move rfl) rfl ?_ | refine stepY (y_assign rfl) rfl ?_)
  refine stepY (y_nil_nes rfl h) rfl ?_
  repeat (first | refine seq_ ?_ | refine region_ ?_ | refine nil_ ?_ | refine skip_ ?_ | refine cond_f rfl ?_ | refine stepY (y_move rfl) rfl ?_ | refine stepE (e_bs_vs rfl rfl rfl rfl rfl rfl) ?_)
  refine stepE (e_app_pts (l := []) (l2 := l) rfl rfl rfl (src_ss rfl (pts_ones l)) (by simp only [List.length_nil]; omega) rfl rfl) ?_
  repeat (first | refine nil_ ?_ | refine ret_ ?_ | refine stepY (y_assign rfl) rfl ?_)
  rw [List.nil_append]
  exact ⟨.inr rfl, 2, 5, rfl, rfl, rfl, rfl⟩
end Go.Av
