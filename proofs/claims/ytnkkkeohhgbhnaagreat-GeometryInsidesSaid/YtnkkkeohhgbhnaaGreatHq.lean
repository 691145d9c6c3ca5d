/- Contracts behind a law: no conditions beyond those in each statement. -/
import Derived.Test.YtnkkkeohhgbhnaaGreatHp
set_option maxHeartbeats 8000000
set_option exponentiation.threshold 100000
set_option maxRecDepth 100000
set_option linter.unusedVariables false
set_option linter.unusedSimpArgs false
namespace Go.Av
open Go Go.Proofs

open Go.RowKit
/-! Is a polygon its own hull? -/
def rotP (l : List Pt) (k : Nat) : List Pt := l.drop k ++ l.take k
theorem rot_len (l : List Pt) {k : Nat} (h : k ≤ l.length) : (rotP l k).length = l.length := by
  unfold rotP
  rw [List.length_append, List.length_drop, List.length_take]
  omega
theorem at_get {l : List Pt} {k : Nat} (h : k < l.length) : at_ l (k : Int) = l[k] := by simp [at_, List.getD, h]
theorem at_rot {l : List Pt} {a i : Nat} (ha : a < l.length) (hi : i < l.length) : at_ (rotP l a) (i : Int) = at_ l (((a : Int) + (i : Int)) % (l.length : Int)) := by
  have hr := rot_len l (k := a) (by omega)
  rw [at_get (by omega)]
  have e1 : ((a : Int) + (i : Int)) % (l.length : Int) = (((a + i) % l.length : Nat) : Int) := by rw [Int.natCast_emod, Int.natCast_add]
  rw [e1, at_get (Nat.mod_lt _ (by omega))]
  by_cases h : i < l.length - a
  · have e2 : (a + i) % l.length = a + i := Nat.mod_eq_of_lt (by omega)
    have : (rotP l a)[i]? = l[(a + i) % l.length]? := by
      unfold rotP
      rw [e2, List.getElem?_append_left (by rw [List.length_drop]; omega), List.getElem?_drop]
    rw [List.getElem?_eq_getElem (by omega), List.getElem?_eq_getElem (Nat.mod_lt _ (by omega))] at this
    exact Option.some.inj this
  · have e2 : (a + i) % l.length = a + i - l.length := by
      rw [Nat.mod_eq_sub_mod (by omega)]
      exact Nat.mod_eq_of_lt (by omega)
    have : (rotP l a)[i]? = l[(a + i) % l.length]? := by
      unfold rotP
      rw [e2, List.getElem?_append_right (by rw [List.length_drop]; omega), List.length_drop, List.getElem?_take, if_pos (by omega)]
      congr 1
      omega
    rw [List.getElem?_eq_getElem (by omega), List.getElem?_eq_getElem (Nat.mod_lt _ (by omega))] at this
    exact Option.some.inj this
theorem at_ext {a b : List Pt} (hl : a.length = b.length) (h : ∀ k : Nat, k < a.length → at_ a (k : Int) = at_ b (k : Int)) : a = b := by
  refine List.ext_getElem hl (fun i h1 h2 => ?_)
  have := h i h1
  rwa [at_get h1, at_get h2] at this
def hIx (l : List Pt) : Nat := ix l (at_ (hullF l) 0)
def cvx (l : List Pt) : Bool := decide (hullF l = rotP l (hIx l))
theorem hull_head {l : List Pt} (h0 : l ≠ []) (hs : l.all smB = true) : 0 < (hullF l).length ∧ at_ (hullF l) 0 ∈ l := by
  obtain ⟨a, t, h⟩ := hull_is h0 hs
  rw [h.eq]
  refine ⟨by simp, ?_⟩
  have : at_ (a :: t) 0 = a := rfl
  rw [this]
  exact h.sub a (by rw [h.eq]; simp)
theorem hull_len {l : List Pt} (h0 : l ≠ []) (hs : l.all smB = true) : (hullF l).length ≤ l.length := by
  obtain ⟨a, t, h⟩ := hull_is h0 hs
  exact List.Nodup.length_le_of_subset h.nodup (fun x hx => h.sub x hx)
theorem Convex_c (l : List Pt) (h0 : l ≠ []) (hs : l.all smB = true) (hn : l.length ≤ 4096) : Con Tryz.prog 28 [.ss false 2 (pts l)] (Bo (cvx l)) := by
  have hh := ConRM.con (stab_pts _) (Rhull_c l h0 hs hn)
  rw [hull_eq h0 hs] at hh
  obtain ⟨hp, hmem⟩ := hull_head h0 hs
  have hlen := hull_len h0 hs
  have hlt := ix_lt hmem
  have hat := ix_at hmem
  have hcv : cvx l = decide (hullF l = rotP l (ix l (at_ (hullF l) 0))) := rfl
  have hrl := rot_len l (k := ix l (at_ (hullF l) 0)) (by omega)
  have hmin := @ix_min l (at_ (hullF l) 0)
  have hrot := @at_rot l (ix l (at_ (hullF l) 0))
  generalize hullF l = g at *
  generalize hA : ix l (at_ g 0) = A at *
  rw [hcv]
  refine con_of Tryz.func28 rfl rfl rfl (noT_ps l) rfl ?_
  repeat (first | refine seq_ ?_ | refine region_ ?_ | refine nil_ ?_ | refine stepY (y_move rfl) rfl ?_ | refine stepY (y_assign rfl) rfl ?_)
  refine call_ Tryz.func30 rfl rfl (hh) rfl (by repeat (first | exact .refl _ | apply Les.cons | exact .nil)) rfl ?_
  repeat (first | refine seq_ ?_ | refine region_ ?_ | refine nil_ ?_ | refine block_ ?_ | refine stepY (y_assign rfl) rfl ?_)
  refine loop_ (α := Nat) (fun k => ([(0, .p (.ss false 2 (pts l))), (3, .p (.ss true 2 (pts g))), (4, .p (I k))], [])) (fun k => k ≤ A) (fun k => A - k) 0 (by omega) ?_ ?_ ?_
  · (repeat (first | exact sub_nil | refine sub_cons rfl ?_))
  · (repeat (exact subH_nil))
  intro k hk
  have hq := eqI_pt (at_ l (k : Int)) (at_ g 0)
  by_cases e : at_ l (k : Int) = at_ g 0
  · rw [decide_eq_true e] at hq
    have hm := hmin (k := k) (by omega) e
    have hkA : k = A := by omega
    subst hkA
    repeat (refine seq_ ?_)
    refine draw_ [(0, true), (1, true), (2, true), (3, true), (4, true), (5, true), (6, true), (7, true), (8, true), (9, true), (10, true), (11, true), (12, true), (13, true)] 1000 [] mixed (by kernel_rfl) rfl ?_
    ((refine dY rfl (y_move rfl) rfl rfl rfl rfl ?_); refine dY rfl (y_move rfl) rfl rfl rfl rfl ?_; refine dY rfl (y_len_ps rfl) rfl rfl rfl rfl ?_; refine dY rfl (y_cmpT rfl rfl rfl (by omega)) rfl rfl rfl rfl ?_; refine dY rfl (y_move rfl) rfl rfl rfl rfl ?_; refine dY rfl (y_move rfl) rfl rfl rfl rfl ?_; refine dY rfl (y_move rfl) rfl rfl rfl rfl ?_; refine dY rfl (y_index_ps rfl rfl (by omega) (by omega)) rfl rfl rfl rfl ?_; refine dY rfl (y_load_rcA rfl rfl) rfl rfl rfl rfl ?_; refine dY rfl (y_move rfl) rfl rfl rfl rfl ?_; refine dY rfl (y_index_ps rfl rfl (by omega) (by omega)) rfl rfl rfl rfl ?_; refine dY rfl (y_load_rcA rfl rfl) rfl rfl rfl rfl ?_; refine dY rfl (y_neI rfl rfl rfl rfl rfl rfl (by assumption)) rfl rfl rfl rfl ?_; refine dY rfl (y_pick_t rfl rfl) rfl rfl rfl rfl ?_; refine dEnd ?_)
    repeat (first | refine seq_ ?_ | refine region_ ?_ | refine nil_ ?_ | refine exit_ ?_ | refine block_ ?_ | refine cond_f rfl ?_ | refine stepY (y_assign rfl) rfl ?_)
    refine loop_ (α := Nat) (fun i => ([(0, .p (.ss false 2 (pts l))), (3, .p (.ss true 2 (pts g))), (4, .p (I k)), (5, .p (I i))], [])) (fun i => i ≤ l.length ∧ (0 < i → g.length = l.length) ∧ ∀ j : Nat, j < i → at_ g (j : Int) = at_ (rotP l k) (j : Int)) (fun i => l.length - i) 0 ⟨by omega, fun h => absurd h (by omega), fun j h => absurd h (by omega)⟩ ?_ ?_ ?_
    · (repeat (first | exact sub_nil | refine sub_cons rfl ?_))
    · (repeat (exact subH_nil))
    rintro i ⟨hi, hgl, hall⟩
    by_cases h : i < l.length
    · have hm0 : 0 ≤ ((k : Int) + (i : Int)) % (l.length : Int) := Int.emod_nonneg _ (by omega)
      have hm1 : ((k : Int) + (i : Int)) % (l.length : Int) < l.length := Int.emod_lt_of_pos _ (by omega)
      have hro := hrot (i := i) (by omega) h
      by_cases hl : g.length = l.length
      · have hq2 := eqI_pt (at_ l (((k : Int) + (i : Int)) % (l.length : Int))) (at_ g (i : Int))
        by_cases e2 : at_ l (((k : Int) + (i : Int)) % (l.length : Int)) = at_ g (i : Int)
        · rw [decide_eq_true e2] at hq2
          repeat (first | refine seq_ ?_ | refine region_ ?_ | refine nil_ ?_ | refine skip_ ?_ | refine block_ ?_ | refine cond_t rfl ?_ | refine stepY (y_move rfl) rfl ?_ | refine stepY (y_len_ps rfl) rfl ?_ | refine stepY (y_cmpT rfl rfl rfl (by omega)) rfl ?_)
          refine draw_ [(0, true), (1, true), (2, true), (3, true), (4, true), (5, true), (6, true), (7, true), (8, true), (9, true), (10, true), (11, true), (12, true), (13, true), (14, true), (15, true), (16, true), (17, true), (18, true), (19, true), (20, true)] 1000 [] mixed (by kernel_rfl) rfl ?_
          ((refine dY rfl (y_move rfl) rfl rfl rfl rfl ?_); refine dY rfl (y_len_ps rfl) rfl rfl rfl rfl ?_; refine dY rfl (y_move rfl) rfl rfl rfl rfl ?_; refine dY rfl (y_len_ps rfl) rfl rfl rfl rfl ?_; refine dY rfl (y_cmpF rfl rfl rfl (by omega)) rfl rfl rfl rfl ?_; refine dY rfl (y_move rfl) rfl rfl rfl rfl ?_; refine dY rfl (y_move rfl) rfl rfl rfl rfl ?_; refine dY rfl (y_move rfl) rfl rfl rfl rfl ?_; refine dY rfl (y_move rfl) rfl rfl rfl rfl ?_; refine dY rfl (y_binn rfl rfl rfl (by simp only [InK, loK, hiK]; omega)) rfl rfl rfl rfl ?_; refine dY rfl (y_move rfl) rfl rfl rfl rfl ?_; refine dY rfl (y_len_ps rfl) rfl rfl rfl rfl ?_; refine dY rfl (y_remp rfl rfl (by omega) (by omega)) rfl rfl rfl rfl ?_; refine dY rfl (y_index_ps rfl rfl (by omega) (by omega)) rfl rfl rfl rfl ?_; refine dY rfl (y_load_rcA rfl rfl) rfl rfl rfl rfl ?_; refine dY rfl (y_move rfl) rfl rfl rfl rfl ?_; refine dY rfl (y_move rfl) rfl rfl rfl rfl ?_; refine dY rfl (y_index_ps rfl rfl (by omega) (by omega)) rfl rfl rfl rfl ?_; refine dY rfl (y_load_rcA rfl rfl) rfl rfl rfl rfl ?_; refine dY rfl (y_neI rfl rfl rfl rfl rfl rfl (by assumption)) rfl rfl rfl rfl ?_; refine dY rfl (y_pick_f rfl rfl) rfl rfl rfl rfl ?_; refine dEnd ?_)
          repeat (first | refine region_ ?_ | refine nil_ ?_ | refine skip_ ?_ | refine cond_f rfl ?_ | refine stepY (y_move rfl) rfl ?_ | refine stepY (y_assign rfl) rfl ?_ | refine stepY (y_binn rfl rfl rfl (by simp only [InK, loK, hiK]; omega)) rfl ?_)
          refine ⟨i + 1, ⟨by omega, fun _ => hl, fun j hj => ?_⟩, by omega, ?_, ?_⟩
          · by_cases hji : j < i
            · exact hall j hji
            · have : j = i := by omega
              subst this
              rw [hro, e2]
          · (repeat (first | exact sub_nil | refine sub_cons rfl ?_))
          · (repeat (exact subH_nil))
        · rw [decide_eq_false e2] at hq2
          rw [decide_eq_false (fun hg => e2 (by rw [← hro, ← hg]))]
          repeat (first | refine seq_ ?_ | refine region_ ?_ | refine nil_ ?_ | refine skip_ ?_ | refine block_ ?_ | refine cond_t rfl ?_ | refine stepY (y_move rfl) rfl ?_ | refine stepY (y_len_ps rfl) rfl ?_ | refine stepY (y_cmpT rfl rfl rfl (by omega)) rfl ?_)
          refine draw_ [(0, true), (1, true), (2, true), (3, true), (4, true), (5, true), (6, true), (7, true), (8, true), (9, true), (10, true), (11, true), (12, true), (13, true), (14, true), (15, true), (16, true), (17, true), (18, true), (19, true), (20, true)] 1000 [] mixed (by kernel_rfl) rfl ?_
          ((refine dY rfl (y_move rfl) rfl rfl rfl rfl ?_); refine dY rfl (y_len_ps rfl) rfl rfl rfl rfl ?_; refine dY rfl (y_move rfl) rfl rfl rfl rfl ?_; refine dY rfl (y_len_ps rfl) rfl rfl rfl rfl ?_; refine dY rfl (y_cmpF rfl rfl rfl (by omega)) rfl rfl rfl rfl ?_; refine dY rfl (y_move rfl) rfl rfl rfl rfl ?_; refine dY rfl (y_move rfl) rfl rfl rfl rfl ?_; refine dY rfl (y_move rfl) rfl rfl rfl rfl ?_; refine dY rfl (y_move rfl) rfl rfl rfl rfl ?_; refine dY rfl (y_binn rfl rfl rfl (by simp only [InK, loK, hiK]; omega)) rfl rfl rfl rfl ?_; refine dY rfl (y_move rfl) rfl rfl rfl rfl ?_; refine dY rfl (y_len_ps rfl) rfl rfl rfl rfl ?_; refine dY rfl (y_remp rfl rfl (by omega) (by omega)) rfl rfl rfl rfl ?_; refine dY rfl (y_index_ps rfl rfl (by omega) (by omega)) rfl rfl rfl rfl ?_; refine dY rfl (y_load_rcA rfl rfl) rfl rfl rfl rfl ?_; refine dY rfl (y_move rfl) rfl rfl rfl rfl ?_; refine dY rfl (y_move rfl) rfl rfl rfl rfl ?_; refine dY rfl (y_index_ps rfl rfl (by omega) (by omega)) rfl rfl rfl rfl ?_; refine dY rfl (y_load_rcA rfl rfl) rfl rfl rfl rfl ?_; refine dY rfl (y_neI rfl rfl rfl rfl rfl rfl (by assumption)) rfl rfl rfl rfl ?_; refine dY rfl (y_pick_f rfl rfl) rfl rfl rfl rfl ?_; refine dEnd ?_)
          repeat (first | refine seq_ ?_ | refine region_ ?_ | refine nil_ ?_ | refine ret_ ?_ | refine cond_t rfl ?_ | refine stepY (y_assign rfl) rfl ?_)
          ((apply fin_r); (repeat (first | exact .nil | exact .tmp rfl | apply ResL.cons)); (repeat (exact .refl _)))
      · rw [decide_eq_false (fun hg => hl (by rw [hg, hrl]))]
        repeat (first | refine seq_ ?_ | refine region_ ?_ | refine nil_ ?_ | refine skip_ ?_ | refine block_ ?_ | refine cond_t rfl ?_ | refine stepY (y_move rfl) rfl ?_ | refine stepY (y_len_ps rfl) rfl ?_ | refine stepY (y_cmpT rfl rfl rfl (by omega)) rfl ?_)
        refine draw_ [(0, true), (1, true), (2, true), (3, true), (4, true), (5, true), (6, true), (7, true), (8, true), (9, true), (10, true), (11, true), (12, true), (13, true), (14, true), (15, true), (16, true), (17, true), (18, true), (19, true), (20, true)] 1000 [] mixed (by kernel_rfl) rfl ?_
        ((refine dY rfl (y_move rfl) rfl rfl rfl rfl ?_); refine dY rfl (y_len_ps rfl) rfl rfl rfl rfl ?_; refine dY rfl (y_move rfl) rfl rfl rfl rfl ?_; refine dY rfl (y_len_ps rfl) rfl rfl rfl rfl ?_; refine dY rfl (y_cmpT rfl rfl rfl (by omega)) rfl rfl rfl rfl ?_; refine dY rfl (y_move rfl) rfl rfl rfl rfl ?_; (refine dSkip rfl rfl rfl rfl ?_); (refine dSkip rfl rfl rfl rfl ?_); (refine dSkip rfl rfl rfl rfl ?_); (refine dSkip rfl rfl rfl rfl ?_); (refine dSkip rfl rfl rfl rfl ?_); (refine dSkip rfl rfl rfl rfl ?_); (refine dSkip rfl rfl rfl rfl ?_); (refine dSkip rfl rfl rfl rfl ?_); (refine dSkip rfl rfl rfl rfl ?_); (refine dSkip rfl rfl rfl rfl ?_); (refine dSkip rfl rfl rfl rfl ?_); (refine dSkip rfl rfl rfl rfl ?_); (refine dSkip rfl rfl rfl rfl ?_); (refine dSkip rfl rfl rfl rfl ?_); refine dY rfl (y_pick_t rfl rfl) rfl rfl rfl rfl ?_; refine dEnd ?_)
        repeat (first | refine seq_ ?_ | refine region_ ?_ | refine nil_ ?_ | refine ret_ ?_ | refine cond_t rfl ?_ | refine stepY (y_assign rfl) rfl ?_)
        ((apply fin_r); (repeat (first | exact .nil | exact .tmp rfl | apply ResL.cons)); (repeat (exact .refl _)))
    · have ei : i = l.length := by omega
      subst ei
      have hl := hgl (by omega)
      rw [decide_eq_true (at_ext (by rw [hrl, hl]) (fun j hj => hall j (by omega)))]
      repeat (first | refine seq_ ?_ | refine region_ ?_ | refine nil_ ?_ | refine exit_ ?_ | refine ret_ ?_ | refine cond_f rfl ?_ | refine stepY (y_move rfl) rfl ?_ | refine stepY (y_assign rfl) rfl ?_ | refine stepY (y_len_ps rfl) rfl ?_ | refine stepY (y_cmpF rfl rfl rfl (by omega)) rfl ?_)
      ((apply fin_r); (repeat (first | exact .nil | exact .tmp rfl | apply ResL.cons)); (repeat (exact .refl _)))
  · rw [decide_eq_false e] at hq
    have hkA : k ≠ A := fun g' => e (by rw [g']; exact hat)
    repeat (refine seq_ ?_)
    refine draw_ [(0, true), (1, true), (2, true), (3, true), (4, true), (5, true), (6, true), (7, true), (8, true), (9, true), (10, true), (11, true), (12, true), (13, true)] 1000 [] mixed (by kernel_rfl) rfl ?_
    ((refine dY rfl (y_move rfl) rfl rfl rfl rfl ?_); refine dY rfl (y_move rfl) rfl rfl rfl rfl ?_; refine dY rfl (y_len_ps rfl) rfl rfl rfl rfl ?_; refine dY rfl (y_cmpT rfl rfl rfl (by omega)) rfl rfl rfl rfl ?_; refine dY rfl (y_move rfl) rfl rfl rfl rfl ?_; refine dY rfl (y_move rfl) rfl rfl rfl rfl ?_; refine dY rfl (y_move rfl) rfl rfl rfl rfl ?_; refine dY rfl (y_index_ps rfl rfl (by omega) (by omega)) rfl rfl rfl rfl ?_; refine dY rfl (y_load_rcA rfl rfl) rfl rfl rfl rfl ?_; refine dY rfl (y_move rfl) rfl rfl rfl rfl ?_; refine dY rfl (y_index_ps rfl rfl (by omega) (by omega)) rfl rfl rfl rfl ?_; refine dY rfl (y_load_rcA rfl rfl) rfl rfl rfl rfl ?_; refine dY rfl (y_neI rfl rfl rfl rfl rfl rfl (by assumption)) rfl rfl rfl rfl ?_; refine dY rfl (y_pick_t rfl rfl) rfl rfl rfl rfl ?_; refine dEnd ?_)
    repeat (first | refine region_ ?_ | refine nil_ ?_ | refine skip_ ?_ | refine block_ ?_ | refine cond_t rfl ?_ | refine stepY (y_move rfl) rfl ?_ | refine stepY (y_assign rfl) rfl ?_ | refine stepY (y_binn rfl rfl rfl (by simp only [InK, loK, hiK]; omega)) rfl ?_)
    refine ⟨k + 1, by omega, by omega, ?_, ?_⟩
    · (repeat (first | exact sub_nil | refine sub_cons rfl ?_))
    · (repeat (exact subH_nil))
end Go.Av
