/- Contracts of functions that the laws on fractions reach, and the plain arithmetic behind them: no conditions beyond those in each statement. -/
import Derived.Test.YtnkkkeohhgbhnaaJ5
import Derived.Test.YtnkkkeohhgbhnaaJ2
set_option maxHeartbeats 8000000
set_option exponentiation.threshold 100000
set_option maxRecDepth 100000
set_option linter.unusedVariables false
set_option linter.unusedSimpArgs false
namespace Go.Av
open Go Go.Proofs

open Go.RowKit
/-! The reference's hull: walked. -/
theorem before_c (a b : Pt) : Con Try.prog 58 [pt a, pt b] (Bo (ltP a b)) := by
  refine con_of Try.func58 rfl rfl rfl rfl rfl ?_
  unfold ltP
  by_cases c1 : a.1 < b.1
  · rw [decide_eq_true (.inl c1)]
    repeat (first | refine seq_ ?_ | refine region_ ?_ | refine nil_ ?_ | refine ret_ ?_ | refine guard_f rfl rfl rfl rfl ?_ | refine guard_u rfl rfl rfl ?_ | refine stepY (y_move rfl) rfl ?_ | refine stepY (y_assign rfl) rfl ?_ | refine stepY (y_load1 rfl rfl rfl) rfl ?_ | refine stepY (y_fieldAddr rfl) rfl ?_ | refine stepY (y_pick_t rfl rfl) rfl ?_ | refine stepY (y_cmpT rfl rfl rfl (by omega)) rfl ?_ | refine stepE (e_box rfl rfl rfl rfl rfl rfl) ?_)
    ((apply fin_r); (repeat (first | exact .nil | exact .tmp rfl | apply ResL.cons)); (repeat (exact .refl _)))
  · by_cases c2 : a.1 = b.1
    · by_cases c3 : a.2 < b.2
      · rw [decide_eq_true (.inr ⟨c2, c3⟩)]
        repeat (first | refine seq_ ?_ | refine region_ ?_ | refine nil_ ?_ | refine ret_ ?_ | refine guard_t rfl rfl rfl ?_ | refine stepY (y_move rfl) rfl ?_ | refine stepY (y_assign rfl) rfl ?_ | refine stepY (y_load1 rfl rfl rfl) rfl ?_ | refine stepY (y_fieldAddr rfl) rfl ?_ | (first | refine stepY (y_pick_t rfl rfl) rfl ?_ | refine stepY (y_pick_f rfl rfl) rfl ?_) | refine stepY (y_cmpT rfl rfl rfl (by omega)) rfl ?_ | (first | refine stepY (y_cmpT rfl rfl rfl (by omega)) rfl ?_ | refine stepY (y_cmpF rfl rfl rfl (by omega)) rfl ?_) | refine stepE (e_box rfl rfl rfl rfl rfl rfl) ?_)
        ((apply fin_r); (repeat (first | exact .nil | exact .tmp rfl | apply ResL.cons)); (repeat (exact .refl _)))
      · rw [decide_eq_false (by omega)]
        repeat (first | refine seq_ ?_ | refine region_ ?_ | refine nil_ ?_ | refine ret_ ?_ | refine guard_t rfl rfl rfl ?_ | refine stepY (y_move rfl) rfl ?_ | refine stepY (y_assign rfl) rfl ?_ | refine stepY (y_load1 rfl rfl rfl) rfl ?_ | refine stepY (y_fieldAddr rfl) rfl ?_ | (first | refine stepY (y_pick_t rfl rfl) rfl ?_ | refine stepY (y_pick_f rfl rfl) rfl ?_) | refine stepY (y_cmpT rfl rfl rfl (by omega)) rfl ?_ | refine stepY (y_cmpF rfl rfl rfl (by omega)) rfl ?_ | refine stepE (e_box rfl rfl rfl rfl rfl rfl) ?_)
        ((apply fin_r); (repeat (first | exact .nil | exact .tmp rfl | apply ResL.cons)); (repeat (exact .refl _)))
    · rw [decide_eq_false (by omega)]
      repeat (first | refine seq_ ?_ | refine region_ ?_ | refine nil_ ?_ | refine ret_ ?_ | refine guard_t rfl rfl rfl ?_ | refine guard_f rfl rfl rfl rfl ?_ | refine stepY (y_move rfl) rfl ?_ | refine stepY (y_assign rfl) rfl ?_ | refine stepY (y_load1 rfl rfl rfl) rfl ?_ | refine stepY (y_fieldAddr rfl) rfl ?_ | refine stepY (y_pick_f rfl rfl) rfl ?_ | refine stepY (y_cmpF rfl rfl rfl (by omega)) rfl ?_ | refine stepY (y_cmpF rfl rfl rfl (by omega)) rfl ?_ | refine stepE (e_box rfl rfl rfl rfl rfl rfl) ?_)
      ((apply fin_r); (repeat (first | exact .nil | exact .tmp rfl | apply ResL.cons)); (repeat (exact .refl _)))
theorem rstep_sm {p b x : Pt} (hb : sm b) (hx : sm x) : sm (rstep p b x) := by unfold rstep; split <;> assumption
theorem rfold_sm {p : Pt} : ∀ (s : List Pt) (b : Pt), s.all smB = true → sm b → sm (s.foldl (rstep p) b)
  | [], b, _, hb => hb
  | x :: s, b, hs, hb => by
    rw [List.foldl_cons]
    have h := hs
    rw [List.all_cons, Bool.and_eq_true] at h
    exact rfold_sm s _ h.2 (rstep_sm hb (by simpa [smB] using h.1))
theorem rnext_sm {l : List Pt} {p : Pt} (hs : l.all smB = true) (hp : sm p) : sm (rnext l p) := rfold_sm l p hs hp
def rnxS (l : List Pt) (p : Pt) (k : Nat) : Pt := (l.take k).foldl (rstep p) p
theorem rnxS_step {l : List Pt} {p : Pt} {k : Nat} (h : k < l.length) : rnxS l p (k + 1) = rstep p (rnxS l p k) (at_ l (k : Int)) := by
  unfold rnxS
  rw [take_at h, List.foldl_append]
  rfl
theorem rnxS_end {l : List Pt} {p : Pt} : rnxS l p l.length = rnext l p := by unfold rnxS rnext; rw [List.take_length]
theorem next_c (l : List Pt) (p : Pt) (hs : l.all smB = true) (hp : sm p) (hn : l.length ≤ 4096) : Con Try.prog 59 [.ss false 2 (pts l), pt p] (pt (rnext l p)) := by
  refine con_of Try.func59 rfl rfl rfl (by simp [noTs, noT, noT_pts]) rfl ?_
  repeat (first | refine seq_ ?_ | refine region_ ?_ | refine nil_ ?_ | refine block_ ?_ | refine stepY (y_assign rfl) rfl ?_ | refine stepY (y_loadA rfl rfl rfl) rfl ?_ | refine stepE (e_box rfl rfl rfl rfl rfl rfl) ?_ | refine stepE (e_alloc rfl rfl rfl) ?_ | refine stepE (e_store rfl rfl rfl rfl rfl rfl rfl) ?_)
  refine loop_ (α := Nat) (fun k => ([(0, .p (.ss false 2 (pts l))), (3, .ptr 3 0), (4, .ptr 4 0), (5, .ptr 5 0), (6, .p (I k))], [(3, .bx [I p.1, I p.2]), (4, .bx [I 0, I 0]), (5, .bx [I (rnxS l p k).1, I (rnxS l p k).2])])) (fun k => k ≤ l.length ∧ sm (rnxS l p k)) (fun k => l.length - k) 0 ⟨by omega, hp⟩ ?_ ?_ ?_
  · (repeat (first | exact sub_nil | refine sub_cons rfl ?_))
  · (repeat (first | exact subH_nil | refine subH_cons rfl ?_))
  rintro k ⟨hk, hbs⟩
  by_cases h : k < l.length
  · have hst := rnxS_step (p := p) h
    have hx := at_all hs (n := (k : Int)) (by omega) (by omega)
    have hcr := Rcross_c p (rnxS l p k) (at_ l (k : Int)) hp hbs hx
    have hf1 := far_c p (at_ l (k : Int)) hp hx
    have hf2 := far_c p (rnxS l p k) hp hbs
    have hq := eqI_pt (rnxS l p k) p
    have hsm2 : sm (rnxS l p (k + 1)) := by rw [hst]; exact rstep_sm hbs hx
    generalize hb0 : rnxS l p k = b at *
    by_cases c1 : b = p
    · rw [decide_eq_true c1] at hq
      have hst2 : rnxS l p (k + 1) = at_ l (k : Int) := by rw [hst]; unfold rstep; rw [if_pos (.inl c1)]
      repeat (first | refine seq_ ?_ | refine region_ ?_ | refine nil_ ?_ | refine skip_ ?_ | refine block_ ?_ | refine cond_t rfl ?_ | refine stepY (y_move rfl) rfl ?_ | refine stepY (y_len_ps rfl) rfl ?_ | refine stepY (y_cmpT rfl rfl rfl (by omega)) rfl ?_)
      refine draw_ [(0, true), (1, true), (2, true), (3, true), (4, true), (5, true), (6, false), (7, true)] 1000 [3, 5] mixed (by kernel_rfl) rfl ?_
      ((refine dY rfl (y_loadA rfl rfl rfl) rfl rfl rfl rfl ?_); refine dY rfl (y_loadA rfl rfl rfl) rfl rfl rfl rfl ?_; refine dY rfl (y_move rfl) rfl rfl rfl rfl ?_; refine dY rfl (y_move rfl) rfl rfl rfl rfl ?_; refine dY rfl (y_index_ps rfl rfl (by omega) (by omega)) rfl rfl rfl rfl ?_; refine dY rfl (y_load_rcA rfl rfl) rfl rfl rfl rfl ?_)
      refine dC rfl Try.func40 rfl rfl (hcr) rfl (by repeat (first | exact .refl _ | apply Les.cons | exact .nil)) rfl rfl ?_
      ((refine dY rfl (y_assign rfl) rfl rfl rfl rfl ?_); refine dEnd ?_)
      repeat (refine seq_ ?_)
      refine draw_ [(0, true), (1, true), (2, true), (3, true), (4, true), (5, true), (6, true), (7, true), (8, true), (9, true), (10, true), (11, true), (12, true), (13, true), (14, true), (15, true), (17, true), (18, true), (16, false), (19, false), (20, true), (21, true), (22, true)] 1000 [3, 5] mixed (by kernel_rfl) rfl ?_
      ((refine dY rfl (y_loadA rfl rfl rfl) rfl rfl rfl rfl ?_); refine dY rfl (y_loadA rfl rfl rfl) rfl rfl rfl rfl ?_; refine dY rfl (y_eqI rfl rfl rfl rfl rfl rfl (by assumption)) rfl rfl rfl rfl ?_; refine dY rfl (y_move rfl) rfl rfl rfl rfl ?_; (refine dSkip rfl rfl rfl rfl ?_); (refine dSkip rfl rfl rfl rfl ?_); refine dY rfl (y_pick_t rfl rfl) rfl rfl rfl rfl ?_; refine dY rfl (y_move rfl) rfl rfl rfl rfl ?_; (refine dSkip rfl rfl rfl rfl ?_); (refine dSkip rfl rfl rfl rfl ?_); (refine dSkip rfl rfl rfl rfl ?_); (refine dSkip rfl rfl rfl rfl ?_); (refine dSkip rfl rfl rfl rfl ?_); (refine dSkip rfl rfl rfl rfl ?_); (refine dSkip rfl rfl rfl rfl ?_); (refine dSkip rfl rfl rfl rfl ?_); (refine dSkip rfl rfl rfl rfl ?_); (refine dSkip rfl rfl rfl rfl ?_))
      first | refine dSkip rfl rfl rfl rfl ?_ | refine dSkip1 rfl rfl rfl rfl ?_
      skip
      first | refine dSkip rfl rfl rfl rfl ?_ | refine dSkip1 rfl rfl rfl rfl ?_
      ((refine dSkip rfl rfl rfl rfl ?_); (refine dSkip rfl rfl rfl rfl ?_); refine dY rfl (y_pick_t rfl rfl) rfl rfl rfl rfl ?_; refine dEnd ?_)
      repeat (first | refine region_ ?_ | refine nil_ ?_ | refine cond_t rfl ?_ | refine stepY (y_move rfl) rfl ?_ | refine stepY (y_assign rfl) rfl ?_ | refine stepY (y_load_rcA rfl rfl) rfl ?_ | refine stepY (y_index_ps rfl rfl (by omega) (by omega)) rfl ?_ | refine stepY (y_binn rfl rfl rfl (by simp only [InK, loK, hiK]; omega)) rfl ?_ | refine stepE (e_store rfl rfl rfl rfl rfl rfl rfl) ?_)
      rw [hst2] at hsm2
      refine ⟨k + 1, ⟨by omega, by rw [hst2]; exact hsm2⟩, by omega, ?_, ?_⟩
      · rw [hst2]
        (repeat (first | exact sub_nil | refine sub_cons rfl ?_))
      · rw [hst2]
        (repeat (first | exact subH_nil | refine subH_cons rfl ?_))
    · rw [decide_eq_false c1] at hq
      by_cases c2 : crossP p b (at_ l (k : Int)) < 0
      · have hst2 : rnxS l p (k + 1) = at_ l (k : Int) := by rw [hst]; unfold rstep; rw [if_pos (.inr (.inl c2))]
        repeat (first | refine seq_ ?_ | refine region_ ?_ | refine nil_ ?_ | refine skip_ ?_ | refine block_ ?_ | refine cond_t rfl ?_ | refine stepY (y_move rfl) rfl ?_ | refine stepY (y_len_ps rfl) rfl ?_ | refine stepY (y_cmpT rfl rfl rfl (by omega)) rfl ?_)
        refine draw_ [(0, true), (1, true), (2, true), (3, true), (4, true), (5, true), (6, false), (7, true)] 1000 [3, 5] mixed (by kernel_rfl) rfl ?_
        ((refine dY rfl (y_loadA rfl rfl rfl) rfl rfl rfl rfl ?_); refine dY rfl (y_loadA rfl rfl rfl) rfl rfl rfl rfl ?_; refine dY rfl (y_move rfl) rfl rfl rfl rfl ?_; refine dY rfl (y_move rfl) rfl rfl rfl rfl ?_; refine dY rfl (y_index_ps rfl rfl (by omega) (by omega)) rfl rfl rfl rfl ?_; refine dY rfl (y_load_rcA rfl rfl) rfl rfl rfl rfl ?_)
        refine dC rfl Try.func40 rfl rfl (hcr) rfl (by repeat (first | exact .refl _ | apply Les.cons | exact .nil)) rfl rfl ?_
        ((refine dY rfl (y_assign rfl) rfl rfl rfl rfl ?_); refine dEnd ?_)
        repeat (refine seq_ ?_)
        refine draw_ [(0, true), (1, true), (2, true), (3, true), (4, true), (5, true), (6, true), (7, true), (8, true), (9, true), (10, true), (11, true), (12, true), (13, true), (14, true), (15, true), (17, true), (18, true), (16, false), (19, false), (20, true), (21, true), (22, true)] 1000 [3, 5] mixed (by kernel_rfl) rfl ?_
        ((refine dY rfl (y_loadA rfl rfl rfl) rfl rfl rfl rfl ?_); refine dY rfl (y_loadA rfl rfl rfl) rfl rfl rfl rfl ?_; refine dY rfl (y_eqI rfl rfl rfl rfl rfl rfl (by assumption)) rfl rfl rfl rfl ?_; refine dY rfl (y_move rfl) rfl rfl rfl rfl ?_; refine dY rfl (y_move rfl) rfl rfl rfl rfl ?_; refine dY rfl (y_cmpT rfl rfl rfl (by omega)) rfl rfl rfl rfl ?_; refine dY rfl (y_pick_f rfl rfl) rfl rfl rfl rfl ?_; refine dY rfl (y_move rfl) rfl rfl rfl rfl ?_; (refine dSkip rfl rfl rfl rfl ?_); (refine dSkip rfl rfl rfl rfl ?_); (refine dSkip rfl rfl rfl rfl ?_); (refine dSkip rfl rfl rfl rfl ?_); (refine dSkip rfl rfl rfl rfl ?_); (refine dSkip rfl rfl rfl rfl ?_); (refine dSkip rfl rfl rfl rfl ?_); (refine dSkip rfl rfl rfl rfl ?_); (refine dSkip rfl rfl rfl rfl ?_); (refine dSkip rfl rfl rfl rfl ?_))
        first | refine dSkip rfl rfl rfl rfl ?_ | refine dSkip1 rfl rfl rfl rfl ?_
        skip
        first | refine dSkip rfl rfl rfl rfl ?_ | refine dSkip1 rfl rfl rfl rfl ?_
        ((refine dSkip rfl rfl rfl rfl ?_); (refine dSkip rfl rfl rfl rfl ?_); refine dY rfl (y_pick_t rfl rfl) rfl rfl rfl rfl ?_; refine dEnd ?_)
        repeat (first | refine region_ ?_ | refine nil_ ?_ | refine cond_t rfl ?_ | refine stepY (y_move rfl) rfl ?_ | refine stepY (y_assign rfl) rfl ?_ | refine stepY (y_load_rcA rfl rfl) rfl ?_ | refine stepY (y_index_ps rfl rfl (by omega) (by omega)) rfl ?_ | refine stepY (y_binn rfl rfl rfl (by simp only [InK, loK, hiK]; omega)) rfl ?_ | refine stepE (e_store rfl rfl rfl rfl rfl rfl rfl) ?_)
        rw [hst2] at hsm2
        refine ⟨k + 1, ⟨by omega, by rw [hst2]; exact hsm2⟩, by omega, ?_, ?_⟩
        · rw [hst2]
          (repeat (first | exact sub_nil | refine sub_cons rfl ?_))
        · rw [hst2]
          (repeat (first | exact subH_nil | refine subH_cons rfl ?_))
      · by_cases c3 : crossP p b (at_ l (k : Int)) = 0
        · by_cases c4 : farP p b < farP p (at_ l (k : Int))
          · have hst2 : rnxS l p (k + 1) = at_ l (k : Int) := by rw [hst]; unfold rstep; rw [if_pos (.inr (.inr ⟨c3, c4⟩))]
            repeat (first | refine seq_ ?_ | refine region_ ?_ | refine nil_ ?_ | refine skip_ ?_ | refine block_ ?_ | refine cond_t rfl ?_ | refine stepY (y_move rfl) rfl ?_ | refine stepY (y_len_ps rfl) rfl ?_ | refine stepY (y_cmpT rfl rfl rfl (by omega)) rfl ?_)
            refine draw_ [(0, true), (1, true), (2, true), (3, true), (4, true), (5, true), (6, false), (7, true)] 1000 [3, 5] mixed (by kernel_rfl) rfl ?_
            ((refine dY rfl (y_loadA rfl rfl rfl) rfl rfl rfl rfl ?_); refine dY rfl (y_loadA rfl rfl rfl) rfl rfl rfl rfl ?_; refine dY rfl (y_move rfl) rfl rfl rfl rfl ?_; refine dY rfl (y_move rfl) rfl rfl rfl rfl ?_; refine dY rfl (y_index_ps rfl rfl (by omega) (by omega)) rfl rfl rfl rfl ?_; refine dY rfl (y_load_rcA rfl rfl) rfl rfl rfl rfl ?_)
            refine dC rfl Try.func40 rfl rfl (hcr) rfl (by repeat (first | exact .refl _ | apply Les.cons | exact .nil)) rfl rfl ?_
            ((refine dY rfl (y_assign rfl) rfl rfl rfl rfl ?_); refine dEnd ?_)
            repeat (refine seq_ ?_)
            refine draw_ [(0, true), (1, true), (2, true), (3, true), (4, true), (5, true), (6, true), (7, true), (8, true), (9, true), (10, true), (11, true), (12, true), (13, true), (14, true), (15, true), (17, true), (18, true), (16, false), (19, false), (20, true), (21, true), (22, true)] 1000 [3, 5] mixed (by kernel_rfl) rfl ?_
            ((refine dY rfl (y_loadA rfl rfl rfl) rfl rfl rfl rfl ?_); refine dY rfl (y_loadA rfl rfl rfl) rfl rfl rfl rfl ?_; refine dY rfl (y_eqI rfl rfl rfl rfl rfl rfl (by assumption)) rfl rfl rfl rfl ?_; refine dY rfl (y_move rfl) rfl rfl rfl rfl ?_; refine dY rfl (y_move rfl) rfl rfl rfl rfl ?_; refine dY rfl (y_cmpF rfl rfl rfl (by omega)) rfl rfl rfl rfl ?_; refine dY rfl (y_pick_f rfl rfl) rfl rfl rfl rfl ?_; refine dY rfl (y_move rfl) rfl rfl rfl rfl ?_; refine dY rfl (y_move rfl) rfl rfl rfl rfl ?_; refine dY rfl (y_cmpT rfl rfl rfl (by omega)) rfl rfl rfl rfl ?_; refine dY rfl (y_move rfl) rfl rfl rfl rfl ?_; refine dY rfl (y_loadA rfl rfl rfl) rfl rfl rfl rfl ?_; refine dY rfl (y_move rfl) rfl rfl rfl rfl ?_; refine dY rfl (y_move rfl) rfl rfl rfl rfl ?_; refine dY rfl (y_index_ps rfl rfl (by omega) (by omega)) rfl rfl rfl rfl ?_; refine dY rfl (y_load_rcA rfl rfl) rfl rfl rfl rfl ?_; refine dY rfl (y_loadA rfl rfl rfl) rfl rfl rfl rfl ?_; refine dY rfl (y_loadA rfl rfl rfl) rfl rfl rfl rfl ?_)
            refine dC rfl Try.func44 rfl rfl (hf1) rfl (by repeat (first | exact .refl _ | apply Les.cons | exact .nil)) rfl rfl ?_
            skip
            refine dC rfl Try.func44 rfl rfl (hf2) rfl (by repeat (first | exact .refl _ | apply Les.cons | exact .nil)) rfl rfl ?_
            ((refine dY rfl (y_cmpT rfl rfl rfl (by omega)) rfl rfl rfl rfl ?_); refine dY rfl (y_pick_t rfl rfl) rfl rfl rfl rfl ?_; refine dY rfl (y_pick_f rfl rfl) rfl rfl rfl rfl ?_; refine dEnd ?_)
            repeat (first | refine region_ ?_ | refine nil_ ?_ | refine cond_t rfl ?_ | refine stepY (y_move rfl) rfl ?_ | refine stepY (y_assign rfl) rfl ?_ | refine stepY (y_load_rcA rfl rfl) rfl ?_ | refine stepY (y_index_ps rfl rfl (by omega) (by omega)) rfl ?_ | refine stepY (y_binn rfl rfl rfl (by simp only [InK, loK, hiK]; omega)) rfl ?_ | refine stepE (e_store rfl rfl rfl rfl rfl rfl rfl) ?_)
            rw [hst2] at hsm2
            refine ⟨k + 1, ⟨by omega, by rw [hst2]; exact hsm2⟩, by omega, ?_, ?_⟩
            · rw [hst2]
              (repeat (first | exact sub_nil | refine sub_cons rfl ?_))
            · rw [hst2]
              (repeat (first | exact subH_nil | refine subH_cons rfl ?_))
          · have hst2 : rnxS l p (k + 1) = b := by rw [hst]; unfold rstep; rw [if_neg (by rintro (g | g | g); exact c1 g; exact c2 g; exact c4 g.2)]
            repeat (first | refine seq_ ?_ | refine region_ ?_ | refine nil_ ?_ | refine skip_ ?_ | refine block_ ?_ | refine cond_t rfl ?_ | refine stepY (y_move rfl) rfl ?_ | refine stepY (y_len_ps rfl) rfl ?_ | refine stepY (y_cmpT rfl rfl rfl (by omega)) rfl ?_)
            refine draw_ [(0, true), (1, true), (2, true), (3, true), (4, true), (5, true), (6, false), (7, true)] 1000 [3, 5] mixed (by kernel_rfl) rfl ?_
            ((refine dY rfl (y_loadA rfl rfl rfl) rfl rfl rfl rfl ?_); refine dY rfl (y_loadA rfl rfl rfl) rfl rfl rfl rfl ?_; refine dY rfl (y_move rfl) rfl rfl rfl rfl ?_; refine dY rfl (y_move rfl) rfl rfl rfl rfl ?_; refine dY rfl (y_index_ps rfl rfl (by omega) (by omega)) rfl rfl rfl rfl ?_; refine dY rfl (y_load_rcA rfl rfl) rfl rfl rfl rfl ?_)
            refine dC rfl Try.func40 rfl rfl (hcr) rfl (by repeat (first | exact .refl _ | apply Les.cons | exact .nil)) rfl rfl ?_
            ((refine dY rfl (y_assign rfl) rfl rfl rfl rfl ?_); refine dEnd ?_)
            repeat (refine seq_ ?_)
            refine draw_ [(0, true), (1, true), (2, true), (3, true), (4, true), (5, true), (6, true), (7, true), (8, true), (9, true), (10, true), (11, true), (12, true), (13, true), (14, true), (15, true), (17, true), (18, true), (16, false), (19, false), (20, true), (21, true), (22, true)] 1000 [3, 5] mixed (by kernel_rfl) rfl ?_
            ((refine dY rfl (y_loadA rfl rfl rfl) rfl rfl rfl rfl ?_); refine dY rfl (y_loadA rfl rfl rfl) rfl rfl rfl rfl ?_; refine dY rfl (y_eqI rfl rfl rfl rfl rfl rfl (by assumption)) rfl rfl rfl rfl ?_; refine dY rfl (y_move rfl) rfl rfl rfl rfl ?_; refine dY rfl (y_move rfl) rfl rfl rfl rfl ?_; refine dY rfl (y_cmpF rfl rfl rfl (by omega)) rfl rfl rfl rfl ?_; refine dY rfl (y_pick_f rfl rfl) rfl rfl rfl rfl ?_; refine dY rfl (y_move rfl) rfl rfl rfl rfl ?_; refine dY rfl (y_move rfl) rfl rfl rfl rfl ?_; refine dY rfl (y_cmpT rfl rfl rfl (by omega)) rfl rfl rfl rfl ?_; refine dY rfl (y_move rfl) rfl rfl rfl rfl ?_; refine dY rfl (y_loadA rfl rfl rfl) rfl rfl rfl rfl ?_; refine dY rfl (y_move rfl) rfl rfl rfl rfl ?_; refine dY rfl (y_move rfl) rfl rfl rfl rfl ?_; refine dY rfl (y_index_ps rfl rfl (by omega) (by omega)) rfl rfl rfl rfl ?_; refine dY rfl (y_load_rcA rfl rfl) rfl rfl rfl rfl ?_; refine dY rfl (y_loadA rfl rfl rfl) rfl rfl rfl rfl ?_; refine dY rfl (y_loadA rfl rfl rfl) rfl rfl rfl rfl ?_)
            refine dC rfl Try.func44 rfl rfl (hf1) rfl (by repeat (first | exact .refl _ | apply Les.cons | exact .nil)) rfl rfl ?_
            skip
            refine dC rfl Try.func44 rfl rfl (hf2) rfl (by repeat (first | exact .refl _ | apply Les.cons | exact .nil)) rfl rfl ?_
            ((refine dY rfl (y_cmpF rfl rfl rfl (by omega)) rfl rfl rfl rfl ?_); refine dY rfl (y_pick_t rfl rfl) rfl rfl rfl rfl ?_; refine dY rfl (y_pick_f rfl rfl) rfl rfl rfl rfl ?_; refine dEnd ?_)
            repeat (first | refine region_ ?_ | refine nil_ ?_ | refine skip_ ?_ | refine cond_f rfl ?_ | refine stepY (y_move rfl) rfl ?_ | refine stepY (y_assign rfl) rfl ?_ | refine stepY (y_binn rfl rfl rfl (by simp only [InK, loK, hiK]; omega)) rfl ?_)
            rw [hst2] at hsm2
            refine ⟨k + 1, ⟨by omega, by rw [hst2]; exact hsm2⟩, by omega, ?_, ?_⟩
            · rw [hst2]
              (repeat (first | exact sub_nil | refine sub_cons rfl ?_))
            · rw [hst2]
              (repeat (first | exact subH_nil | refine subH_cons rfl ?_))
        · have hst2 : rnxS l p (k + 1) = b := by rw [hst]; unfold rstep; rw [if_neg (by rintro (g | g | g); exact c1 g; exact c2 g; exact c3 g.1)]
          repeat (first | refine seq_ ?_ | refine region_ ?_ | refine nil_ ?_ | refine skip_ ?_ | refine block_ ?_ | refine cond_t rfl ?_ | refine stepY (y_move rfl) rfl ?_ | refine stepY (y_len_ps rfl) rfl ?_ | refine stepY (y_cmpT rfl rfl rfl (by omega)) rfl ?_)
          refine draw_ [(0, true), (1, true), (2, true), (3, true), (4, true), (5, true), (6, false), (7, true)] 1000 [3, 5] mixed (by kernel_rfl) rfl ?_
          ((refine dY rfl (y_loadA rfl rfl rfl) rfl rfl rfl rfl ?_); refine dY rfl (y_loadA rfl rfl rfl) rfl rfl rfl rfl ?_; refine dY rfl (y_move rfl) rfl rfl rfl rfl ?_; refine dY rfl (y_move rfl) rfl rfl rfl rfl ?_; refine dY rfl (y_index_ps rfl rfl (by omega) (by omega)) rfl rfl rfl rfl ?_; refine dY rfl (y_load_rcA rfl rfl) rfl rfl rfl rfl ?_)
          refine dC rfl Try.func40 rfl rfl (hcr) rfl (by repeat (first | exact .refl _ | apply Les.cons | exact .nil)) rfl rfl ?_
          ((refine dY rfl (y_assign rfl) rfl rfl rfl rfl ?_); refine dEnd ?_)
          repeat (refine seq_ ?_)
          refine draw_ [(0, true), (1, true), (2, true), (3, true), (4, true), (5, true), (6, true), (7, true), (8, true), (9, true), (10, true), (11, true), (12, true), (13, true), (14, true), (15, true), (17, true), (18, true), (16, false), (19, false), (20, true), (21, true), (22, true)] 1000 [3, 5] mixed (by kernel_rfl) rfl ?_
          ((refine dY rfl (y_loadA rfl rfl rfl) rfl rfl rfl rfl ?_); refine dY rfl (y_loadA rfl rfl rfl) rfl rfl rfl rfl ?_; refine dY rfl (y_eqI rfl rfl rfl rfl rfl rfl (by assumption)) rfl rfl rfl rfl ?_; refine dY rfl (y_move rfl) rfl rfl rfl rfl ?_; refine dY rfl (y_move rfl) rfl rfl rfl rfl ?_; refine dY rfl (y_cmpF rfl rfl rfl (by omega)) rfl rfl rfl rfl ?_; refine dY rfl (y_pick_f rfl rfl) rfl rfl rfl rfl ?_; refine dY rfl (y_move rfl) rfl rfl rfl rfl ?_; refine dY rfl (y_move rfl) rfl rfl rfl rfl ?_; refine dY rfl (y_cmpF rfl rfl rfl (by omega)) rfl rfl rfl rfl ?_; refine dY rfl (y_move rfl) rfl rfl rfl rfl ?_; (refine dSkip rfl rfl rfl rfl ?_); (refine dSkip rfl rfl rfl rfl ?_); (refine dSkip rfl rfl rfl rfl ?_); (refine dSkip rfl rfl rfl rfl ?_); (refine dSkip rfl rfl rfl rfl ?_); (refine dSkip rfl rfl rfl rfl ?_); (refine dSkip rfl rfl rfl rfl ?_))
          first | refine dSkip rfl rfl rfl rfl ?_ | refine dSkip1 rfl rfl rfl rfl ?_
          skip
          first | refine dSkip rfl rfl rfl rfl ?_ | refine dSkip1 rfl rfl rfl rfl ?_
          ((refine dSkip rfl rfl rfl rfl ?_); refine dY rfl (y_pick_f rfl rfl) rfl rfl rfl rfl ?_; refine dY rfl (y_pick_f rfl rfl) rfl rfl rfl rfl ?_; refine dEnd ?_)
          repeat (first | refine region_ ?_ | refine nil_ ?_ | refine skip_ ?_ | refine cond_f rfl ?_ | refine stepY (y_move rfl) rfl ?_ | refine stepY (y_assign rfl) rfl ?_ | refine stepY (y_binn rfl rfl rfl (by simp only [InK, loK, hiK]; omega)) rfl ?_)
          rw [hst2] at hsm2
          refine ⟨k + 1, ⟨by omega, by rw [hst2]; exact hsm2⟩, by omega, ?_, ?_⟩
          · rw [hst2]
            (repeat (first | exact sub_nil | refine sub_cons rfl ?_))
          · rw [hst2]
            (repeat (first | exact subH_nil | refine subH_cons rfl ?_))
  · have e : k = l.length := by omega
    subst e
    rw [rnxS_end]
    repeat (first | refine seq_ ?_ | refine region_ ?_ | refine nil_ ?_ | refine exit_ ?_ | refine ret_ ?_ | refine cond_f rfl ?_ | refine stepY (y_move rfl) rfl ?_ | refine stepY (y_loadA rfl rfl rfl) rfl ?_ | refine stepY (y_len_ps rfl) rfl ?_ | refine stepY (y_cmpF rfl rfl rfl (by omega)) rfl ?_ | refine stepE (e_store rfl rfl rfl rfl rfl rfl rfl) ?_)
    ((apply fin_r); (repeat (first | exact .nil | exact .agg rfl rfl rfl | apply ResL.cons)); (repeat (exact .refl _)))
def rfsS (l : List Pt) (k : Nat) : Pt := (l.take k).foldl (fun m x => if ltP x m = true then x else m) (at_ l 0)
theorem rfsS_step {l : List Pt} {k : Nat} (h : k < l.length) : rfsS l (k + 1) = if ltP (at_ l (k : Int)) (rfsS l k) = true then at_ l (k : Int) else rfsS l k := by
  unfold rfsS
  rw [take_at h, List.foldl_append]
  rfl
theorem rfsS_end {l : List Pt} : rfsS l l.length = rfirst l := by unfold rfsS rfirst; rw [List.take_length]
theorem rgo_ne (l : List Pt) (f : Pt) (n : Nat) {out : List Pt} (h : rnext l (lastP out) ≠ f) : rgo l f (n + 1) out = rgo l f n (out ++ [rnext l (lastP out)]) := by rw [rgo, if_neg h]
theorem rgo_eq (l : List Pt) (f : Pt) (n : Nat) {out : List Pt} (h : rnext l (lastP out) = f) : rgo l f (n + 1) out = out := by rw [rgo, if_pos h]
theorem Rhull_c (l : List Pt) (h0 : l ≠ []) (hs : l.all smB = true) (hn : l.length ≤ 4096) : ConRM Try.prog 45 [.ss false 2 (pts l)] (.vs 28 2 (pts (rhullF l))) := by
  have hl0 : 0 < l.length := by cases l with
    | nil => exact absurd rfl h0
    | cons a l => simp
  refine conRM_of Try.func45 rfl rfl rfl (noT_ps l) rfl (stab_pts _) ?_
  repeat (first | refine seq_ ?_ | refine region_ ?_ | refine nil_ ?_ | refine block_ ?_ | refine stepY (y_move rfl) rfl ?_ | refine stepY (y_assign rfl) rfl ?_ | refine stepY (y_load_rcA rfl rfl) rfl ?_ | refine stepY (y_index_ps rfl rfl (by omega) (by omega)) rfl ?_ | refine stepE (e_alloc rfl rfl rfl) ?_ | refine stepE (e_store rfl rfl rfl rfl rfl rfl rfl) ?_)
  refine loop_ (α := Nat) (fun k => ([(0, .p (.ss false 2 (pts l))), (3, .ptr 3 0), (4, .p (I k))], [(3, .bx [I (rfsS l k).1, I (rfsS l k).2])])) (fun k => k ≤ l.length) (fun k => l.length - k) 0 (by omega) ?_ ?_ ?_
  · (repeat (first | exact sub_nil | refine sub_cons rfl ?_))
  · (repeat (first | exact subH_nil | refine subH_cons rfl ?_))
  intro k hk
  by_cases h : k < l.length
  · have hst := rfsS_step h
    have hb := before_c (at_ l (k : Int)) (rfsS l k)
    generalize hm : rfsS l k = m at *
    cases c : ltP (at_ l (k : Int)) m with
    | true =>
      rw [c] at hb
      rw [c, if_pos rfl] at hst
      repeat (first | refine seq_ ?_ | refine region_ ?_ | refine nil_ ?_ | refine skip_ ?_ | refine block_ ?_ | refine cond_t rfl ?_ | refine stepY (y_move rfl) rfl ?_ | refine stepY (y_len_ps rfl) rfl ?_ | refine stepY (y_cmpT rfl rfl rfl (by omega)) rfl ?_)
      refine draw_ [(0, true), (1, true), (2, true), (3, true), (4, true), (5, false)] 1000 [3] mixed (by kernel_rfl) rfl ?_
      ((refine dY rfl (y_move rfl) rfl rfl rfl rfl ?_); refine dY rfl (y_move rfl) rfl rfl rfl rfl ?_; refine dY rfl (y_index_ps rfl rfl (by omega) (by omega)) rfl rfl rfl rfl ?_; refine dY rfl (y_load_rcA rfl rfl) rfl rfl rfl rfl ?_; refine dY rfl (y_loadA rfl rfl rfl) rfl rfl rfl rfl ?_)
      refine dC rfl Try.func58 rfl rfl (hb) rfl (by repeat (first | exact .refl _ | apply Les.cons | exact .nil)) rfl rfl ?_
      (refine dEnd ?_)
      repeat (first | refine region_ ?_ | refine nil_ ?_ | refine cond_t rfl ?_ | refine stepY (y_move rfl) rfl ?_ | refine stepY (y_assign rfl) rfl ?_ | refine stepY (y_load_rcA rfl rfl) rfl ?_ | refine stepY (y_index_ps rfl rfl (by omega) (by omega)) rfl ?_ | refine stepY (y_binn rfl rfl rfl (by simp only [InK, loK, hiK]; omega)) rfl ?_ | refine stepE (e_store rfl rfl rfl rfl rfl rfl rfl) ?_)
      refine ⟨k + 1, by omega, by omega, ?_, ?_⟩
      · rw [hst]
        (repeat (first | exact sub_nil | refine sub_cons rfl ?_))
      · rw [hst]
        (repeat (first | exact subH_nil | refine subH_cons rfl ?_))
    | false =>
      rw [c] at hb
      rw [c, if_neg (by decide)] at hst
      repeat (first | refine seq_ ?_ | refine region_ ?_ | refine nil_ ?_ | refine skip_ ?_ | refine block_ ?_ | refine cond_t rfl ?_ | refine stepY (y_move rfl) rfl ?_ | refine stepY (y_len_ps rfl) rfl ?_ | refine stepY (y_cmpT rfl rfl rfl (by omega)) rfl ?_)
      refine draw_ [(0, true), (1, true), (2, true), (3, true), (4, true), (5, false)] 1000 [3] mixed (by kernel_rfl) rfl ?_
      ((refine dY rfl (y_move rfl) rfl rfl rfl rfl ?_); refine dY rfl (y_move rfl) rfl rfl rfl rfl ?_; refine dY rfl (y_index_ps rfl rfl (by omega) (by omega)) rfl rfl rfl rfl ?_; refine dY rfl (y_load_rcA rfl rfl) rfl rfl rfl rfl ?_; refine dY rfl (y_loadA rfl rfl rfl) rfl rfl rfl rfl ?_)
      refine dC rfl Try.func58 rfl rfl (hb) rfl (by repeat (first | exact .refl _ | apply Les.cons | exact .nil)) rfl rfl ?_
      (refine dEnd ?_)
      repeat (first | refine region_ ?_ | refine nil_ ?_ | refine skip_ ?_ | refine cond_f rfl ?_ | refine stepY (y_move rfl) rfl ?_ | refine stepY (y_assign rfl) rfl ?_ | refine stepY (y_binn rfl rfl rfl (by simp only [InK, loK, hiK]; omega)) rfl ?_)
      refine ⟨k + 1, by omega, by omega, ?_, ?_⟩
      · rw [hst]
        (repeat (first | exact sub_nil | refine sub_cons rfl ?_))
      · rw [hst]
        (repeat (first | exact subH_nil | refine subH_cons rfl ?_))
  · have e : k = l.length := by omega
    subst e
    rw [rfsS_end]
    have hsf : sm (rfirst l) := by
      have := rfirst_fold l (at_ l 0)
      have h1 : rfirst l = at_ l 0 ∨ rfirst l ∈ l := this.1
      rcases h1 with h1 | h1
      · rw [h1]; exact at_all hs (by omega) (by omega)
      · exact sm_mem hs h1
    have hr : rhullF l = rgo l (rfirst l) (l.length + 1) [rfirst l] := rfl
    generalize rfirst l = f at *
    repeat (first | refine seq_ ?_ | refine region_ ?_ | refine nil_ ?_ | refine exit_ ?_ | refine block_ ?_ | refine cond_f rfl ?_ | refine stepY (y_move rfl) rfl ?_ | refine stepY (y_assign rfl) rfl ?_ | refine stepY (y_loadA rfl rfl rfl) rfl ?_ | refine stepY (y_len_ps rfl) rfl ?_ | refine stepY (y_cmpF rfl rfl rfl (by omega)) rfl ?_ | refine stepE (e_bs_vs rfl rfl rfl rfl rfl rfl) ?_)
    refine loop_ (α := Nat × List Pt) (fun s => ([(0, .p (.ss false 2 (pts l))), (3, .ptr 3 0), (5, .vec 28), (6, .p (I s.1))], [(3, .bx [I f.1, I f.2]), (28, .vs 28 2 (pts s.2))])) (fun s => s.1 ≤ l.length + 1 ∧ s.2.length = s.1 + 1 ∧ sm (lastP s.2) ∧ rgo l f (l.length + 1 - s.1) s.2 = rhullF l) (fun s => l.length + 1 - s.1) (0, [f]) ⟨by dsimp only; omega, rfl, hsf, hr.symm⟩ ?_ ?_ ?_
    · (repeat (first | exact sub_nil | refine sub_cons rfl ?_))
    · (repeat (first | exact subH_nil | refine subH_cons rfl ?_))
    rintro ⟨k, out⟩ ⟨hk, ho, hlast, hrg⟩
    dsimp only at hk ho hlast hrg ⊢
    by_cases h : k ≤ l.length
    · have hnx := next_c l (lastP out) hs hlast hn
      have hsn := rnext_sm hs hlast
      have hq := eqI_pt (rnext l (lastP out)) f
      have hlp : lastP out = at_ out ((out.length : Int) - 1) := rfl
      have hstep1 := rgo_eq l f (l.length - k) (out := out)
      have hstep2 := rgo_ne l f (l.length - k) (out := out)
      generalize hr0 : rnext l (lastP out) = r at *
      rw [hlp] at hnx
      by_cases c : r = f
      · have hres : out = rhullF l := by
          rw [← hrg, show l.length + 1 - k = (l.length - k) + 1 by omega, hstep1 c]
        rw [decide_eq_true c] at hq
        rw [← hres]
        repeat (first | refine seq_ ?_ | refine region_ ?_ | refine nil_ ?_ | refine skip_ ?_ | refine block_ ?_ | refine cond_t rfl ?_ | refine stepY (y_move rfl) rfl ?_ | refine stepY (y_load_pv rfl rfl (by omega) (by omega)) rfl ?_ | (first | refine stepY (y_len_pv rfl rfl) rfl ?_ | refine stepY (y_len_ps rfl) rfl ?_) | refine stepY (y_index_pv rfl rfl rfl (by omega) (by omega)) rfl ?_ | refine stepY (y_binn rfl rfl rfl (by simp only [InK, loK, hiK]; omega)) rfl ?_ | refine stepY (y_cmpT rfl rfl rfl (by omega)) rfl ?_)
        refine call_ Try.func59 rfl rfl (hnx) rfl (by repeat (first | exact .refl _ | apply Les.cons | exact .nil)) rfl ?_
        repeat (first | refine seq_ ?_ | refine region_ ?_ | refine nil_ ?_ | refine ret_ ?_ | refine cond_t rfl ?_ | refine stepY (y_move rfl) rfl ?_ | refine stepY (y_assign rfl) rfl ?_ | refine stepY (y_loadA rfl rfl rfl) rfl ?_ | refine stepY (y_eqI rfl rfl rfl rfl rfl rfl (by assumption)) rfl ?_ | refine stepE (e_alloc rfl rfl rfl) ?_ | refine stepE (e_store rfl rfl rfl rfl rfl rfl rfl) ?_)
        exact ⟨.inr rfl, 2, 28, rfl, rfl, rfl, rfl⟩
      · rw [decide_eq_false c] at hq
        have hrg2 : rgo l f (l.length - k) (out ++ [r]) = rhullF l := by
          rw [← hrg, show l.length + 1 - k = (l.length - k) + 1 by omega, hstep2 c]
        repeat (first | refine seq_ ?_ | refine region_ ?_ | refine nil_ ?_ | refine skip_ ?_ | refine block_ ?_ | refine cond_t rfl ?_ | refine stepY (y_move rfl) rfl ?_ | refine stepY (y_load_pv rfl rfl (by omega) (by omega)) rfl ?_ | (first | refine stepY (y_len_pv rfl rfl) rfl ?_ | refine stepY (y_len_ps rfl) rfl ?_) | refine stepY (y_index_pv rfl rfl rfl (by omega) (by omega)) rfl ?_ | refine stepY (y_binn rfl rfl rfl (by simp only [InK, loK, hiK]; omega)) rfl ?_ | refine stepY (y_cmpT rfl rfl rfl (by omega)) rfl ?_)
        refine call_ Try.func59 rfl rfl (hnx) rfl (by repeat (first | exact .refl _ | apply Les.cons | exact .nil)) rfl ?_
        repeat (first | refine seq_ ?_ | refine region_ ?_ | refine nil_ ?_ | refine skip_ ?_ | refine cond_f rfl ?_ | refine stepY (y_move rfl) rfl ?_ | refine stepY (y_loadA rfl rfl rfl) rfl ?_ | refine stepY (y_eqI rfl rfl rfl rfl rfl rfl (by assumption)) rfl ?_ | refine stepE (e_alloc rfl rfl rfl) ?_ | refine stepE (e_store rfl rfl rfl rfl rfl rfl rfl) ?_ | refine stepE (e_bs_vs rfl rfl rfl rfl rfl rfl) ?_)
        refine stepE (e_app_pts (l2 := [r]) rfl rfl rfl (src_vs rfl rfl) (by simp only [List.length_cons, List.length_nil]; omega) rfl rfl) ?_
        repeat (first | refine region_ ?_ | refine nil_ ?_ | refine stepY (y_move rfl) rfl ?_ | refine stepY (y_assign rfl) rfl ?_ | refine stepY (y_binn rfl rfl rfl (by simp only [InK, loK, hiK]; omega)) rfl ?_)
        refine ⟨(k + 1, out ++ [r]), ⟨by dsimp only; omega, by dsimp only; rw [List.length_append, List.length_singleton]; omega, by dsimp only; rw [lastP_snoc]; exact hsn, by dsimp only; rw [show l.length + 1 - (k + 1) = l.length - k by omega]; exact hrg2⟩, by dsimp only; omega, ?_, ?_⟩
        · (repeat (first | exact sub_nil | refine sub_cons rfl ?_))
        · (repeat (first | exact subH_nil | refine subH_cons rfl ?_))
    · have e : l.length + 1 - k = 0 := by omega
      rw [e] at hrg
      have hres : out = rhullF l := hrg
      rw [← hres]
      repeat (first | refine seq_ ?_ | refine region_ ?_ | refine nil_ ?_ | refine exit_ ?_ | refine ret_ ?_ | refine cond_f rfl ?_ | refine stepY (y_move rfl) rfl ?_ | refine stepY (y_assign rfl) rfl ?_ | refine stepY (y_len_ps rfl) rfl ?_ | refine stepY (y_cmpF rfl rfl rfl (by omega)) rfl ?_)
      exact ⟨.inr rfl, 2, 28, rfl, rfl, rfl, rfl⟩
theorem RHull_c (l : List Pt) : Con Try.prog 19 [.ss false 2 (pts l)] (.tp [.ss true 2 (pts (hlR l).1), E_ (hlR l).2]) := by
  have hc := right_c l
  unfold hlR
  by_cases h0 : chkR l = 0
  · rw [if_neg (not_not_intro h0)]
    rw [h0] at hc
    obtain ⟨hn, hall⟩ := chk_ok h0
    by_cases h1 : l.length = 0
    · rw [if_pos h1]
      refine con_of Try.func19 rfl rfl rfl (noT_ps l) rfl ?_
      repeat (first | refine seq_ ?_ | refine region_ ?_ | refine nil_ ?_ | refine stepY (y_move rfl) rfl ?_ | refine stepY (y_assign rfl) rfl ?_)
      refine call_ Try.func39 rfl rfl (hc) rfl (by repeat (first | exact .refl _ | apply Les.cons | exact .nil)) rfl ?_
      repeat (first | refine seq_ ?_ | refine region_ ?_ | refine nil_ ?_ | refine skip_ ?_ | refine ret_ ?_ | refine cond_t rfl ?_ | refine cond_f rfl ?_ | refine stepY (y_move rfl) rfl ?_ | refine stepY (y_assign rfl) rfl ?_ | refine stepY (y_len_ps rfl) rfl ?_ | refine stepY (y_cmpT rfl rfl rfl (by omega)) rfl ?_ | refine stepY (y_cmpF rfl rfl rfl (by omega)) rfl ?_)
      ((apply fin_r); (repeat (first | exact .nil | exact .tmp rfl | apply ResL.cons)); (repeat (first | exact .refl _ | exact .nils _ _ | apply Le.tp | apply Les.cons | exact .nil)))
    · rw [if_neg h1]
      have hne : l ≠ [] := fun e => h1 (by rw [e]; rfl)
      have hh := ConRM.con (stab_pts _) (Rhull_c l hne hall hn)
      rw [hull_eq hne hall] at hh
      refine con_of Try.func19 rfl rfl rfl (noT_ps l) rfl ?_
      repeat (first | refine seq_ ?_ | refine region_ ?_ | refine nil_ ?_ | refine stepY (y_move rfl) rfl ?_ | refine stepY (y_assign rfl) rfl ?_)
      refine call_ Try.func39 rfl rfl (hc) rfl (by repeat (first | exact .refl _ | apply Les.cons | exact .nil)) rfl ?_
      repeat (first | refine seq_ ?_ | refine region_ ?_ | refine nil_ ?_ | refine skip_ ?_ | refine cond_f rfl ?_ | refine stepY (y_move rfl) rfl ?_ | refine stepY (y_assign rfl) rfl ?_ | refine stepY (y_len_ps rfl) rfl ?_ | refine stepY (y_cmpF rfl rfl rfl (by omega)) rfl ?_ | refine stepY (y_cmpF rfl rfl rfl (by omega)) rfl ?_)
      refine call_ Try.func45 rfl rfl (hh) rfl (by repeat (first | exact .refl _ | apply Les.cons | exact .nil)) rfl ?_
      repeat (first | refine nil_ ?_ | refine ret_ ?_ | refine stepY (y_assign rfl) rfl ?_)
      ((apply fin_r); (repeat (first | exact .nil | exact .tmp rfl | apply ResL.cons)); (repeat (exact .refl _)))
  · rw [if_pos h0]
    refine con_of Try.func19 rfl rfl rfl (noT_ps l) rfl ?_
    repeat (first | refine seq_ ?_ | refine region_ ?_ | refine nil_ ?_ | refine stepY (y_move rfl) rfl ?_ | refine stepY (y_assign rfl) rfl ?_)
    refine call_ Try.func39 rfl rfl (hc) rfl (by repeat (first | exact .refl _ | apply Les.cons | exact .nil)) rfl ?_
    repeat (first | refine seq_ ?_ | refine region_ ?_ | refine nil_ ?_ | refine ret_ ?_ | refine cond_t rfl ?_ | refine stepY (y_move rfl) rfl ?_ | refine stepY (y_assign rfl) rfl ?_ | refine stepY (y_cmpT rfl rfl rfl (by omega)) rfl ?_)
    ((apply fin_r); (repeat (first | exact .nil | exact .tmp rfl | apply ResL.cons)); (repeat (first | exact .refl _ | exact .nils _ _ | apply Le.tp | apply Les.cons | exact .nil)))
end Go.Av
