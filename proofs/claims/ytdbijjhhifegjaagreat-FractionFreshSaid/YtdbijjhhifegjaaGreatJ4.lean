/- Contracts of functions that the laws on fractions reach, and the plain arithmetic behind them: no conditions beyond those in each statement. -/
import Derived.Test.YtdbijjhhifegjaaGreatJ3
import Derived.Test.YtdbijjhhifegjaaGreatJ2
import Derived.Laws.Concat
import Derived.Laws.Externs
import Derived.RangeFuncNested
import Derived.RangeFuncLeaves
import Derived.RangeFuncBound
import Derived.OwnWalkIn
import Derived.Test.YtdbijjhhifegjaaGreatJ1
import Derived.TacticsInMore
import Derived.LoopNIn
import Derived.LoopIn
set_option maxHeartbeats 8000000
set_option exponentiation.threshold 100000
set_option maxRecDepth 100000
set_option linter.unusedVariables false
set_option linter.unusedSimpArgs false
namespace Go.Av
open Go Go.Proofs
/-! fractions: the four operations and the order -/
theorem FAdd_e (p p' : Bool) (l l' : List Int) (q q' : Bool) (k k' : List Int) (hl : wf l) (hk : wf k) (hl' : wf l') (hk' : wf k') (h : (vldF p l q k && vldF p' l' q' k') = false) : Con Tryz.prog 10 [AF p l q k, AF p' l' q' k'] (.tp [ZF, E_ 1]) := by
  have hv := valid2_c p p' l l' q q' k k' hl hk hl' hk'
  rw [h] at hv
  refine con_of Tryz.func10 rfl rfl rfl rfl rfl ?_
  repeat (first | refine seq_ ?_ | refine region_ ?_ | refine nil_ ?_ | refine stepY (y_assign rfl) rfl ?_ | refine stepY (y_loadA rfl rfl rfl) rfl ?_ | refine stepE (e_box rfl rfl rfl rfl rfl rfl) ?_ | refine stepE (e_alloc rfl rfl rfl) ?_ | refine stepE (e_bs_vs rfl rfl rfl rfl rfl rfl) ?_)
  refine seal_Ls (i := 10) (h := 10) rfl rfl rfl rfl ?_
  refine call_ Tryz.func33 rfl rfl (hv) rfl (by repeat (first | exact .tags _ _ | apply Les.cons | exact .nil)) rfl ?_
  repeat (first | refine seq_ ?_ | refine region_ ?_ | refine nil_ ?_ | refine ret_ ?_ | refine cond_t rfl ?_ | refine stepY (y_assign rfl) rfl ?_ | refine stepY (y_not rfl) rfl ?_ | refine stepY (y_build rfl rfl rfl) rfl ?_ | refine stepE (e_store rfl rfl rfl rfl rfl rfl rfl) ?_)
  ((apply fin_r); (repeat (first | exact .nil | exact .tmp rfl | exact .agg rfl rfl rfl | apply ResL.cons)); (repeat (first | exact .refl _ | exact .nil _ _ | apply Le.ag | apply Le.tp | apply Les.cons | exact .nil)))
theorem FSub_e (p p' : Bool) (l l' : List Int) (q q' : Bool) (k k' : List Int) (hl : wf l) (hk : wf k) (hl' : wf l') (hk' : wf k') (h : (vldF p l q k && vldF p' l' q' k') = false) : Con Tryz.prog 11 [AF p l q k, AF p' l' q' k'] (.tp [ZF, E_ 1]) := by
  have hv := valid2_c p p' l l' q q' k k' hl hk hl' hk'
  rw [h] at hv
  refine con_of Tryz.func11 rfl rfl rfl rfl rfl ?_
  repeat (first | refine seq_ ?_ | refine region_ ?_ | refine nil_ ?_ | refine stepY (y_assign rfl) rfl ?_ | refine stepY (y_loadA rfl rfl rfl) rfl ?_ | refine stepE (e_box rfl rfl rfl rfl rfl rfl) ?_ | refine stepE (e_alloc rfl rfl rfl) ?_ | refine stepE (e_bs_vs rfl rfl rfl rfl rfl rfl) ?_)
  refine seal_Ls (i := 10) (h := 10) rfl rfl rfl rfl ?_
  refine call_ Tryz.func33 rfl rfl (hv) rfl (by repeat (first | exact .tags _ _ | apply Les.cons | exact .nil)) rfl ?_
  repeat (first | refine seq_ ?_ | refine region_ ?_ | refine nil_ ?_ | refine ret_ ?_ | refine cond_t rfl ?_ | refine stepY (y_assign rfl) rfl ?_ | refine stepY (y_not rfl) rfl ?_ | refine stepY (y_build rfl rfl rfl) rfl ?_ | refine stepE (e_store rfl rfl rfl rfl rfl rfl rfl) ?_)
  ((apply fin_r); (repeat (first | exact .nil | exact .tmp rfl | exact .agg rfl rfl rfl | apply ResL.cons)); (repeat (first | exact .refl _ | exact .nil _ _ | apply Le.ag | apply Le.tp | apply Les.cons | exact .nil)))
theorem FMul_e (p p' : Bool) (l l' : List Int) (q q' : Bool) (k k' : List Int) (hl : wf l) (hk : wf k) (hl' : wf l') (hk' : wf k') (h : (vldF p l q k && vldF p' l' q' k') = false) : Con Tryz.prog 12 [AF p l q k, AF p' l' q' k'] (.tp [ZF, E_ 1]) := by
  have hv := valid2_c p p' l l' q q' k k' hl hk hl' hk'
  rw [h] at hv
  refine con_of Tryz.func12 rfl rfl rfl rfl rfl ?_
  repeat (first | refine seq_ ?_ | refine region_ ?_ | refine nil_ ?_ | refine stepY (y_assign rfl) rfl ?_ | refine stepY (y_loadA rfl rfl rfl) rfl ?_ | refine stepE (e_box rfl rfl rfl rfl rfl rfl) ?_ | refine stepE (e_alloc rfl rfl rfl) ?_ | refine stepE (e_bs_vs rfl rfl rfl rfl rfl rfl) ?_)
  refine seal_Ls (i := 8) (h := 8) rfl rfl rfl rfl ?_
  refine call_ Tryz.func33 rfl rfl (hv) rfl (by repeat (first | exact .tags _ _ | apply Les.cons | exact .nil)) rfl ?_
  repeat (first | refine seq_ ?_ | refine region_ ?_ | refine nil_ ?_ | refine ret_ ?_ | refine cond_t rfl ?_ | refine stepY (y_assign rfl) rfl ?_ | refine stepY (y_not rfl) rfl ?_ | refine stepY (y_build rfl rfl rfl) rfl ?_ | refine stepE (e_store rfl rfl rfl rfl rfl rfl rfl) ?_)
  ((apply fin_r); (repeat (first | exact .nil | exact .tmp rfl | exact .agg rfl rfl rfl | apply ResL.cons)); (repeat (first | exact .refl _ | exact .nil _ _ | apply Le.ag | apply Le.tp | apply Les.cons | exact .nil)))
theorem FDiv_e (p p' : Bool) (l l' : List Int) (q q' : Bool) (k k' : List Int) (hl : wf l) (hk : wf k) (hl' : wf l') (hk' : wf k') (h : (vldF p l q k && vldF p' l' q' k') = false) : Con Tryz.prog 13 [AF p l q k, AF p' l' q' k'] (.tp [ZF, E_ 1]) := by
  have hv := valid2_c p p' l l' q q' k k' hl hk hl' hk'
  rw [h] at hv
  refine con_of Tryz.func13 rfl rfl rfl rfl rfl ?_
  repeat (first | refine seq_ ?_ | refine region_ ?_ | refine nil_ ?_ | refine block_ ?_ | refine stepY (y_assign rfl) rfl ?_ | refine stepY (y_loadA rfl rfl rfl) rfl ?_ | refine stepE (e_box rfl rfl rfl rfl rfl rfl) ?_ | refine stepE (e_alloc rfl rfl rfl) ?_ | refine stepE (e_bs_vs rfl rfl rfl rfl rfl rfl) ?_)
  refine seal_Ls (i := 9) (h := 9) rfl rfl rfl rfl ?_
  refine call_ Tryz.func33 rfl rfl (hv) rfl (by repeat (first | exact .tags _ _ | apply Les.cons | exact .nil)) rfl ?_
  repeat (first | refine seq_ ?_ | refine region_ ?_ | refine nil_ ?_ | refine ret_ ?_ | refine cond_t rfl ?_ | refine stepY (y_assign rfl) rfl ?_ | refine stepY (y_not rfl) rfl ?_ | refine stepY (y_build rfl rfl rfl) rfl ?_ | refine stepE (e_store rfl rfl rfl rfl rfl rfl rfl) ?_)
  ((apply fin_r); (repeat (first | exact .nil | exact .tmp rfl | exact .agg rfl rfl rfl | apply ResL.cons)); (repeat (first | exact .refl _ | exact .nil _ _ | apply Le.ag | apply Le.tp | apply Les.cons | exact .nil)))
theorem FCmp_e (p p' : Bool) (l l' : List Int) (q q' : Bool) (k k' : List Int) (hl : wf l) (hk : wf k) (hl' : wf l') (hk' : wf k') (h : (vldF p l q k && vldF p' l' q' k') = false) : Con Tryz.prog 26 [AF p l q k, AF p' l' q' k'] (.tp [I 0, E_ 1]) := by
  have hv := valid2_c p p' l l' q q' k k' hl hk hl' hk'
  rw [h] at hv
  refine con_of Tryz.func26 rfl rfl rfl rfl rfl ?_
  repeat (first | refine seq_ ?_ | refine region_ ?_ | refine nil_ ?_ | refine stepY (y_assign rfl) rfl ?_ | refine stepY (y_loadA rfl rfl rfl) rfl ?_ | refine stepE (e_box rfl rfl rfl rfl rfl rfl) ?_ | refine stepE (e_bs_vs rfl rfl rfl rfl rfl rfl) ?_)
  refine seal_Ls (i := 8) (h := 8) rfl rfl rfl rfl ?_
  refine call_ Tryz.func33 rfl rfl (hv) rfl (by repeat (first | exact .tags _ _ | apply Les.cons | exact .nil)) rfl ?_
  repeat (first | refine seq_ ?_ | refine region_ ?_ | refine nil_ ?_ | refine ret_ ?_ | refine cond_t rfl ?_ | refine stepY (y_assign rfl) rfl ?_ | refine stepY (y_not rfl) rfl ?_)
  ((apply fin_r); (repeat (first | exact .nil | exact .tmp rfl | apply ResL.cons)); (repeat (exact .refl _)))
theorem valid2_t {p p' : Bool} {m m' d d' : Nat} (h : vG p m d) (h' : vG p' m' d') : Con Tryz.prog 33 [.ss false 4 [GF p m d, GF p' m' d']] (Bo true) := by
  have hv := valid2_c p p' (limbs m) (limbs m') false false (limbs d) (limbs d') (wf_limbs _) (wf_limbs _) (wf_limbs _) (wf_limbs _)
  unfold vG at h h'
  rwa [h, h'] at hv
theorem validS_t {p : Bool} {m d : Nat} (h : vG p m d) : Con Tryz.prog 33 [.ss false 4 [GF p m d]] (Bo true) := by
  have hv := validS_c p (limbs m) false (limbs d) (wf_limbs _) (wf_limbs _)
  unfold vG at h
  rwa [h] at hv
theorem ln_addA {p q : Bool} {m n k : Nat} (hm : ln m ≤ k) (hn : ln n ≤ k) : ln (addA p q m n) ≤ k + 1 := by
  rw [ln_le] at *
  have h1 := sum_lt hm hn
  have : addA p q m n ≤ m + n := by unfold addA; split <;> (try split) <;> omega
  omega
theorem FMul_g (p p' : Bool) (m m' d d' : Nat) (h : vG p m d) (h' : vG p' m' d') : Con Tryz.prog 12 [GF p m d, GF p' m' d'] (resQ (mkRat (sgn p m) d * mkRat (sgn p' m') d')) := by
  have hv := valid2_t h h'
  obtain ⟨b1, b2, b3, b4, b5, b6⟩ := vG_bd h
  obtain ⟨c1, c2, c3, c4, c5, c6⟩ := vG_bd h'
  have ht1 := wtimes_c p p' m m' (by omega) (by omega)
  have ht2 := wtimes_c false false d d' (by omega) (by omega)
  have hr := reduced_c (p != p') (false != false) (m * m') (d * d') (Nat.mul_pos b3 c3) (by have := ln_mul b1 c1; omega) (by have := ln_mul b2 c2; omega)
  rw [show ((p != p') != (false != false)) = (p != p') by simp, sgn_mul, ← Rat.mkRat_mul_mkRat] at hr
  generalize mkRat (sgn p m) d * mkRat (sgn p' m') d' = x at *
  by_cases hok : okQ x
  · rw [resQ_ok hok] at *
    refine con_of Tryz.func12 rfl rfl rfl rfl rfl ?_
    repeat (first | refine seq_ ?_ | refine region_ ?_ | refine nil_ ?_ | refine stepY (y_assign rfl) rfl ?_ | refine stepY (y_loadA rfl rfl rfl) rfl ?_ | refine stepE (e_box rfl rfl rfl rfl rfl rfl) ?_ | refine stepE (e_alloc rfl rfl rfl) ?_ | refine stepE (e_bs_vs rfl rfl rfl rfl rfl rfl) ?_)
    refine seal_Ls (i := 8) (h := 8) rfl rfl rfl rfl ?_
    refine call_ Tryz.func33 rfl rfl (hv) rfl (by repeat (first | exact .tags _ _ | apply Les.cons | exact .nil)) rfl ?_
    repeat (first | refine seq_ ?_ | refine nil_ ?_ | refine skip_ ?_ | refine cond_f rfl ?_ | refine stepY (y_not rfl) rfl ?_)
    refine draw_ [(0, true), (1, true), (3, true), (4, true), (7, true), (8, true), (10, true), (11, true), (2, false), (5, false), (6, false), (9, false), (12, false), (13, false), (14, false), (15, true), (16, true), (17, false), (18, true)] 1000 [2, 3] mixed (by kernel_rfl) rfl ?_
    ((refine dY rfl (y_fieldAddr rfl) rfl rfl rfl rfl ?_); refine dY rfl (y_loadA rfl rfl rfl) rfl rfl rfl rfl ?_; refine dY rfl (y_fieldAddr rfl) rfl rfl rfl rfl ?_; refine dY rfl (y_loadA rfl rfl rfl) rfl rfl rfl rfl ?_; refine dY rfl (y_fieldAddr rfl) rfl rfl rfl rfl ?_; refine dY rfl (y_loadA rfl rfl rfl) rfl rfl rfl rfl ?_; refine dY rfl (y_fieldAddr rfl) rfl rfl rfl rfl ?_; refine dY rfl (y_loadA rfl rfl rfl) rfl rfl rfl rfl ?_)
    refine dC rfl Tryz.func32 rfl rfl (wideOf_c p m) rfl (by repeat (first | exact .refl _ | apply Les.cons | exact .nil)) rfl rfl ?_
    skip
    refine dC rfl Tryz.func32 rfl rfl (wideOf_c p' m') rfl (by repeat (first | exact .refl _ | apply Les.cons | exact .nil)) rfl rfl ?_
    skip
    refine dC rfl Tryz.func34 rfl rfl (ht1) rfl (by repeat (first | exact .refl _ | apply Les.cons | exact .nil)) rfl rfl ?_
    skip
    refine dC rfl Tryz.func32 rfl rfl (wideOf_c false d) rfl (by repeat (first | exact .refl _ | apply Les.cons | exact .nil)) rfl rfl ?_
    skip
    refine dC rfl Tryz.func32 rfl rfl (wideOf_c false d') rfl (by repeat (first | exact .refl _ | apply Les.cons | exact .nil)) rfl rfl ?_
    skip
    refine dC rfl Tryz.func34 rfl rfl (ht2) rfl (by repeat (first | exact .refl _ | apply Les.cons | exact .nil)) rfl rfl ?_
    skip
    refine dC rfl Tryz.func31 rfl rfl (hr) rfl (by repeat (first | exact .refl _ | apply Les.cons | exact .nil)) rfl rfl ?_
    ((refine dY rfl (y_extract rfl rfl) rfl rfl rfl rfl ?_); refine dY rfl (y_extract rfl rfl) rfl rfl rfl rfl ?_; (refine dE rfl (e_store rfl rfl rfl rfl rfl rfl rfl) rfl rfl ?_); refine dY rfl (y_assign rfl) rfl rfl rfl rfl ?_; refine dEnd ?_)
    repeat (refine ret_ ?_)
    ((apply fin_r); (repeat (first | exact .nil | exact .tmp rfl | exact .agg rfl rfl rfl | apply ResL.cons)); (repeat (exact .refl _)))
  · rw [resQ_no hok] at *
    refine con_of Tryz.func12 rfl rfl rfl rfl rfl ?_
    repeat (first | refine seq_ ?_ | refine region_ ?_ | refine nil_ ?_ | refine stepY (y_assign rfl) rfl ?_ | refine stepY (y_loadA rfl rfl rfl) rfl ?_ | refine stepE (e_box rfl rfl rfl rfl rfl rfl) ?_ | refine stepE (e_alloc rfl rfl rfl) ?_ | refine stepE (e_bs_vs rfl rfl rfl rfl rfl rfl) ?_)
    refine seal_Ls (i := 8) (h := 8) rfl rfl rfl rfl ?_
    refine call_ Tryz.func33 rfl rfl (hv) rfl (by repeat (first | exact .tags _ _ | apply Les.cons | exact .nil)) rfl ?_
    repeat (first | refine seq_ ?_ | refine nil_ ?_ | refine skip_ ?_ | refine cond_f rfl ?_ | refine stepY (y_not rfl) rfl ?_)
    refine draw_ [(0, true), (1, true), (3, true), (4, true), (7, true), (8, true), (10, true), (11, true), (2, false), (5, false), (6, false), (9, false), (12, false), (13, false), (14, false), (15, true), (16, true), (17, false), (18, true)] 1000 [2, 3] mixed (by kernel_rfl) rfl ?_
    ((refine dY rfl (y_fieldAddr rfl) rfl rfl rfl rfl ?_); refine dY rfl (y_loadA rfl rfl rfl) rfl rfl rfl rfl ?_; refine dY rfl (y_fieldAddr rfl) rfl rfl rfl rfl ?_; refine dY rfl (y_loadA rfl rfl rfl) rfl rfl rfl rfl ?_; refine dY rfl (y_fieldAddr rfl) rfl rfl rfl rfl ?_; refine dY rfl (y_loadA rfl rfl rfl) rfl rfl rfl rfl ?_; refine dY rfl (y_fieldAddr rfl) rfl rfl rfl rfl ?_; refine dY rfl (y_loadA rfl rfl rfl) rfl rfl rfl rfl ?_)
    refine dC rfl Tryz.func32 rfl rfl (wideOf_c p m) rfl (by repeat (first | exact .refl _ | apply Les.cons | exact .nil)) rfl rfl ?_
    skip
    refine dC rfl Tryz.func32 rfl rfl (wideOf_c p' m') rfl (by repeat (first | exact .refl _ | apply Les.cons | exact .nil)) rfl rfl ?_
    skip
    refine dC rfl Tryz.func34 rfl rfl (ht1) rfl (by repeat (first | exact .refl _ | apply Les.cons | exact .nil)) rfl rfl ?_
    skip
    refine dC rfl Tryz.func32 rfl rfl (wideOf_c false d) rfl (by repeat (first | exact .refl _ | apply Les.cons | exact .nil)) rfl rfl ?_
    skip
    refine dC rfl Tryz.func32 rfl rfl (wideOf_c false d') rfl (by repeat (first | exact .refl _ | apply Les.cons | exact .nil)) rfl rfl ?_
    skip
    refine dC rfl Tryz.func34 rfl rfl (ht2) rfl (by repeat (first | exact .refl _ | apply Les.cons | exact .nil)) rfl rfl ?_
    skip
    refine dC rfl Tryz.func31 rfl rfl (hr) rfl (by repeat (first | exact .refl _ | apply Les.cons | exact .nil)) rfl rfl ?_
    ((refine dY rfl (y_extract rfl rfl) rfl rfl rfl rfl ?_); refine dY rfl (y_extract rfl rfl) rfl rfl rfl rfl ?_; (refine dE rfl (e_store rfl rfl rfl rfl rfl rfl rfl) rfl rfl ?_); refine dY rfl (y_assign rfl) rfl rfl rfl rfl ?_; refine dEnd ?_)
    repeat (refine ret_ ?_)
    ((apply fin_r); (repeat (first | exact .nil | exact .tmp rfl | exact .agg rfl rfl rfl | apply ResL.cons)); (repeat (exact .refl _)))
theorem FDiv_z (p p' : Bool) (m d d' : Nat) (h : vG p m d) (h' : vG p' 0 d') : Con Tryz.prog 13 [GF p m d, GF p' 0 d'] (.tp [ZF, E_ 12]) := by
  have hv := valid2_t h h'
  obtain ⟨b1, b2, b3, b4, b5, b6⟩ := vG_bd h
  obtain ⟨c1, c2, c3, c4, c5, c6⟩ := vG_bd h'
  have h0 : ((limbs 0).length : Int) = 0 := rfl
  refine con_of Tryz.func13 rfl rfl rfl rfl rfl ?_
  repeat (first | refine seq_ ?_ | refine region_ ?_ | refine nil_ ?_ | refine block_ ?_ | refine stepY (y_assign rfl) rfl ?_ | refine stepY (y_loadA rfl rfl rfl) rfl ?_ | refine stepE (e_box rfl rfl rfl rfl rfl rfl) ?_ | refine stepE (e_alloc rfl rfl rfl) ?_ | refine stepE (e_bs_vs rfl rfl rfl rfl rfl rfl) ?_)
  refine seal_Ls (i := 9) (h := 9) rfl rfl rfl rfl ?_
  refine call_ Tryz.func33 rfl rfl (hv) rfl (by repeat (first | exact .tags _ _ | apply Les.cons | exact .nil)) rfl ?_
  repeat (first | refine seq_ ?_ | refine region_ ?_ | refine nil_ ?_ | refine ret_ ?_ | refine cond_t rfl ?_ | refine cond_f rfl ?_ | refine stepY (y_assign rfl) rfl ?_ | refine stepY (y_load1 rfl rfl rfl) rfl ?_ | refine stepY (y_fieldAddr rfl) rfl ?_ | refine stepY (y_len_si rfl) rfl ?_ | refine stepY (y_not rfl) rfl ?_ | refine stepY (y_build rfl rfl rfl) rfl ?_ | refine stepY (y_cmpT rfl rfl rfl (by omega)) rfl ?_ | refine stepE (e_store rfl rfl rfl rfl rfl rfl rfl) ?_)
  ((apply fin_r); (repeat (first | exact .nil | exact .tmp rfl | exact .agg rfl rfl rfl | apply ResL.cons)); (repeat (first | exact .refl _ | exact .nil _ _ | apply Le.ag | apply Le.tp | apply Les.cons | exact .nil)))
theorem div_rat (p p' : Bool) (m m' d d' : Nat) (hd : 0 < d) (hd' : 0 < d') (hm : 0 < m') : mkRat (sgn (p != p') (m * d')) (d * m') = mkRat (sgn p m) d / mkRat (sgn p' m') d' := by
  have hy : mkRat (sgn p' m') d' ≠ 0 := by
    rw [Ne, Rat.mkRat_eq_zero (by omega)]
    unfold sgn; split <;> omega
  have key : mkRat (sgn (p != p') (m * d')) (d * m') * mkRat (sgn p' m') d' = mkRat (sgn p m) d := by
    rw [Rat.mkRat_mul_mkRat, Rat.mkRat_eq_iff (Nat.ne_of_gt (Nat.mul_pos (Nat.mul_pos hd hm) hd')) (by omega), sgn_mulr]
    rw [Int.natCast_mul, Int.natCast_mul]
    cases p <;> cases p' <;> simp [sgn] <;> grind
  rw [← key, Rat.div_def, Rat.mul_assoc, Rat.mul_inv_cancel _ hy, Rat.mul_one]
theorem FDiv_g (p p' : Bool) (m m' d d' : Nat) (h : vG p m d) (h' : vG p' m' d') (hm : 0 < m') : Con Tryz.prog 13 [GF p m d, GF p' m' d'] (resQ (mkRat (sgn p m) d / mkRat (sgn p' m') d')) := by
  have hv := valid2_t h h'
  obtain ⟨b1, b2, b3, b4, b5, b6⟩ := vG_bd h
  obtain ⟨c1, c2, c3, c4, c5, c6⟩ := vG_bd h'
  have ht1 := wtimes_c p false m d' (by omega) (by omega)
  have ht2 := wtimes_c false p' d m' (by omega) (by omega)
  have hr := reduced_c (p != false) (false != p') (m * d') (d * m') (Nat.mul_pos b3 hm) (by have := ln_mul b1 c2; omega) (by have := ln_mul b2 c1; omega)
  rw [show ((p != false) != (false != p')) = (p != p') by cases p <;> cases p' <;> rfl, div_rat p p' m m' d d' b3 c3 hm] at hr
  have h0 : ((limbs m').length : Int) = ln m' := by rw [limbs_length]
  have h1 := ln_pos.2 hm
  generalize mkRat (sgn p m) d / mkRat (sgn p' m') d' = x at *
  by_cases hok : okQ x
  · rw [resQ_ok hok] at *
    refine con_of Tryz.func13 rfl rfl rfl rfl rfl ?_
    repeat (first | refine seq_ ?_ | refine region_ ?_ | refine nil_ ?_ | refine block_ ?_ | refine stepY (y_assign rfl) rfl ?_ | refine stepY (y_loadA rfl rfl rfl) rfl ?_ | refine stepE (e_box rfl rfl rfl rfl rfl rfl) ?_ | refine stepE (e_alloc rfl rfl rfl) ?_ | refine stepE (e_bs_vs rfl rfl rfl rfl rfl rfl) ?_)
    refine seal_Ls (i := 9) (h := 9) rfl rfl rfl rfl ?_
    refine call_ Tryz.func33 rfl rfl (hv) rfl (by repeat (first | exact .tags _ _ | apply Les.cons | exact .nil)) rfl ?_
    repeat (first | refine seq_ ?_ | refine region_ ?_ | refine nil_ ?_ | refine skip_ ?_ | refine cond_f rfl ?_ | refine stepY (y_assign rfl) rfl ?_ | refine stepY (y_load1 rfl rfl rfl) rfl ?_ | refine stepY (y_fieldAddr rfl) rfl ?_ | refine stepY (y_len_si rfl) rfl ?_ | refine stepY (y_not rfl) rfl ?_ | refine stepY (y_cmpF rfl rfl rfl (by omega)) rfl ?_)
    refine draw_ [(0, true), (1, true), (3, true), (4, true), (7, true), (8, true), (10, true), (11, true), (2, false), (5, false), (6, false), (9, false), (12, false), (13, false), (14, false), (15, true), (16, true), (17, false), (18, true)] 1000 [2, 3] mixed (by kernel_rfl) rfl ?_
    ((refine dY rfl (y_fieldAddr rfl) rfl rfl rfl rfl ?_); refine dY rfl (y_loadA rfl rfl rfl) rfl rfl rfl rfl ?_; refine dY rfl (y_fieldAddr rfl) rfl rfl rfl rfl ?_; refine dY rfl (y_loadA rfl rfl rfl) rfl rfl rfl rfl ?_; refine dY rfl (y_fieldAddr rfl) rfl rfl rfl rfl ?_; refine dY rfl (y_loadA rfl rfl rfl) rfl rfl rfl rfl ?_; refine dY rfl (y_fieldAddr rfl) rfl rfl rfl rfl ?_; refine dY rfl (y_loadA rfl rfl rfl) rfl rfl rfl rfl ?_)
    refine dC rfl Tryz.func32 rfl rfl (wideOf_c p m) rfl (by repeat (first | exact .refl _ | apply Les.cons | exact .nil)) rfl rfl ?_
    skip
    refine dC rfl Tryz.func32 rfl rfl (wideOf_c false d') rfl (by repeat (first | exact .refl _ | apply Les.cons | exact .nil)) rfl rfl ?_
    skip
    refine dC rfl Tryz.func34 rfl rfl (ht1) rfl (by repeat (first | exact .refl _ | apply Les.cons | exact .nil)) rfl rfl ?_
    skip
    refine dC rfl Tryz.func32 rfl rfl (wideOf_c false d) rfl (by repeat (first | exact .refl _ | apply Les.cons | exact .nil)) rfl rfl ?_
    skip
    refine dC rfl Tryz.func32 rfl rfl (wideOf_c p' m') rfl (by repeat (first | exact .refl _ | apply Les.cons | exact .nil)) rfl rfl ?_
    skip
    refine dC rfl Tryz.func34 rfl rfl (ht2) rfl (by repeat (first | exact .refl _ | apply Les.cons | exact .nil)) rfl rfl ?_
    skip
    refine dC rfl Tryz.func31 rfl rfl (hr) rfl (by repeat (first | exact .refl _ | apply Les.cons | exact .nil)) rfl rfl ?_
    ((refine dY rfl (y_extract rfl rfl) rfl rfl rfl rfl ?_); refine dY rfl (y_extract rfl rfl) rfl rfl rfl rfl ?_; (refine dE rfl (e_store rfl rfl rfl rfl rfl rfl rfl) rfl rfl ?_); refine dY rfl (y_assign rfl) rfl rfl rfl rfl ?_; refine dEnd ?_)
    repeat (refine ret_ ?_)
    ((apply fin_r); (repeat (first | exact .nil | exact .tmp rfl | exact .agg rfl rfl rfl | apply ResL.cons)); (repeat (exact .refl _)))
  · rw [resQ_no hok] at *
    refine con_of Tryz.func13 rfl rfl rfl rfl rfl ?_
    repeat (first | refine seq_ ?_ | refine region_ ?_ | refine nil_ ?_ | refine block_ ?_ | refine stepY (y_assign rfl) rfl ?_ | refine stepY (y_loadA rfl rfl rfl) rfl ?_ | refine stepE (e_box rfl rfl rfl rfl rfl rfl) ?_ | refine stepE (e_alloc rfl rfl rfl) ?_ | refine stepE (e_bs_vs rfl rfl rfl rfl rfl rfl) ?_)
    refine seal_Ls (i := 9) (h := 9) rfl rfl rfl rfl ?_
    refine call_ Tryz.func33 rfl rfl (hv) rfl (by repeat (first | exact .tags _ _ | apply Les.cons | exact .nil)) rfl ?_
    repeat (first | refine seq_ ?_ | refine region_ ?_ | refine nil_ ?_ | refine skip_ ?_ | refine cond_f rfl ?_ | refine stepY (y_assign rfl) rfl ?_ | refine stepY (y_load1 rfl rfl rfl) rfl ?_ | refine stepY (y_fieldAddr rfl) rfl ?_ | refine stepY (y_len_si rfl) rfl ?_ | refine stepY (y_not rfl) rfl ?_ | refine stepY (y_cmpF rfl rfl rfl (by omega)) rfl ?_)
    refine draw_ [(0, true), (1, true), (3, true), (4, true), (7, true), (8, true), (10, true), (11, true), (2, false), (5, false), (6, false), (9, false), (12, false), (13, false), (14, false), (15, true), (16, true), (17, false), (18, true)] 1000 [2, 3] mixed (by kernel_rfl) rfl ?_
    ((refine dY rfl (y_fieldAddr rfl) rfl rfl rfl rfl ?_); refine dY rfl (y_loadA rfl rfl rfl) rfl rfl rfl rfl ?_; refine dY rfl (y_fieldAddr rfl) rfl rfl rfl rfl ?_; refine dY rfl (y_loadA rfl rfl rfl) rfl rfl rfl rfl ?_; refine dY rfl (y_fieldAddr rfl) rfl rfl rfl rfl ?_; refine dY rfl (y_loadA rfl rfl rfl) rfl rfl rfl rfl ?_; refine dY rfl (y_fieldAddr rfl) rfl rfl rfl rfl ?_; refine dY rfl (y_loadA rfl rfl rfl) rfl rfl rfl rfl ?_)
    refine dC rfl Tryz.func32 rfl rfl (wideOf_c p m) rfl (by repeat (first | exact .refl _ | apply Les.cons | exact .nil)) rfl rfl ?_
    skip
    refine dC rfl Tryz.func32 rfl rfl (wideOf_c false d') rfl (by repeat (first | exact .refl _ | apply Les.cons | exact .nil)) rfl rfl ?_
    skip
    refine dC rfl Tryz.func34 rfl rfl (ht1) rfl (by repeat (first | exact .refl _ | apply Les.cons | exact .nil)) rfl rfl ?_
    skip
    refine dC rfl Tryz.func32 rfl rfl (wideOf_c false d) rfl (by repeat (first | exact .refl _ | apply Les.cons | exact .nil)) rfl rfl ?_
    skip
    refine dC rfl Tryz.func32 rfl rfl (wideOf_c p' m') rfl (by repeat (first | exact .refl _ | apply Les.cons | exact .nil)) rfl rfl ?_
    skip
    refine dC rfl Tryz.func34 rfl rfl (ht2) rfl (by repeat (first | exact .refl _ | apply Les.cons | exact .nil)) rfl rfl ?_
    skip
    refine dC rfl Tryz.func31 rfl rfl (hr) rfl (by repeat (first | exact .refl _ | apply Les.cons | exact .nil)) rfl rfl ?_
    ((refine dY rfl (y_extract rfl rfl) rfl rfl rfl rfl ?_); refine dY rfl (y_extract rfl rfl) rfl rfl rfl rfl ?_; (refine dE rfl (e_store rfl rfl rfl rfl rfl rfl rfl) rfl rfl ?_); refine dY rfl (y_assign rfl) rfl rfl rfl rfl ?_; refine dEnd ?_)
    repeat (refine ret_ ?_)
    ((apply fin_r); (repeat (first | exact .nil | exact .tmp rfl | exact .agg rfl rfl rfl | apply ResL.cons)); (repeat (exact .refl _)))
theorem FAdd_g (p p' : Bool) (m m' d d' : Nat) (h : vG p m d) (h' : vG p' m' d') : Con Tryz.prog 10 [GF p m d, GF p' m' d'] (resQ (mkRat (sgn p m) d + mkRat (sgn p' m') d')) := by
  have hv := valid2_t h h'
  obtain ⟨b1, b2, b3, b4, b5, b6⟩ := vG_bd h
  obtain ⟨c1, c2, c3, c4, c5, c6⟩ := vG_bd h'
  have ht1 := wtimes_c p false m d' (by omega) (by omega)
  have ht2 := wtimes_c p' false m' d (by omega) (by omega)
  have ht3 := wtimes_c false false d d' (by omega) (by omega)
  rw [Bool.bne_false] at ht1 ht2 ht3
  have e1 := ln_mul b1 c2
  have e2 := ln_mul c1 b2
  have e3 := ln_mul b2 c2
  have hp := wplus_c p p' (m * d') (m' * d) (by omega) (by omega)
  have e4 := ln_addA (p := p) (q := p') e1 e2
  have hr := reduced_c (addN p p' (m * d') (m' * d)) false (addA p p' (m * d') (m' * d)) (d * d') (Nat.mul_pos b3 c3) (by omega) (by omega)
  rw [Bool.bne_false, addA_val, sgn_mulr, sgn_mulr, ← Rat.mkRat_add_mkRat _ _ (by omega) (by omega)] at hr
  generalize mkRat (sgn p m) d + mkRat (sgn p' m') d' = x at *
  by_cases hok : okQ x
  · rw [resQ_ok hok] at *
    refine con_of Tryz.func10 rfl rfl rfl rfl rfl ?_
    repeat (first | refine seq_ ?_ | refine region_ ?_ | refine nil_ ?_ | refine stepY (y_assign rfl) rfl ?_ | refine stepY (y_loadA rfl rfl rfl) rfl ?_ | refine stepE (e_box rfl rfl rfl rfl rfl rfl) ?_ | refine stepE (e_alloc rfl rfl rfl) ?_ | refine stepE (e_bs_vs rfl rfl rfl rfl rfl rfl) ?_)
    refine seal_Ls (i := 10) (h := 10) rfl rfl rfl rfl ?_
    refine call_ Tryz.func33 rfl rfl (hv) rfl (by repeat (first | exact .tags _ _ | apply Les.cons | exact .nil)) rfl ?_
    repeat (first | refine seq_ ?_ | refine nil_ ?_ | refine skip_ ?_ | refine cond_f rfl ?_ | refine stepY (y_not rfl) rfl ?_)
    refine cut_ [(2, .ptr 2 0), (3, .ptr 3 0), (4, .ptr 4 0), (5, .p (E_ 0)), (6, .ptr 6 0), (7, .ptr 7 0)] [(2, .bx [Bo p, M m, Bo false, M d]), (3, .bx [Bo p', M m', Bo false, M d']), (4, .bx [Bo false, .v (.slice none 0 0), Bo false, .v (.slice none 0 0)]), (6, .bx [Bo false, M d]), (7, .bx [Bo false, M d'])] ?_ ?_
    · refine xDraw 1000 [2, 3] mixed ?_
      refine xY (i := 0) (op := .fieldAddr _ _ _) rfl (by (exact y_fieldAddr rfl)) rfl rfl rfl rfl (by kernel_rfl) ?_
      refine xY (i := 1) (op := .load _ _) rfl (by (exact y_loadA rfl rfl rfl)) rfl rfl rfl rfl (by kernel_rfl) ?_
      refine xY (i := 3) (op := .fieldAddr _ _ _) rfl (by (exact y_fieldAddr rfl)) rfl rfl rfl rfl (by kernel_rfl) ?_
      refine xY (i := 4) (op := .load _ _) rfl (by (exact y_loadA rfl rfl rfl)) rfl rfl rfl rfl (by kernel_rfl) ?_
      refine xAll (rs := [2, 6, 7]) (by kernel_rfl) rfl ⟨?_, ?_, ?_, trivial⟩
      · (refine iC rfl Tryz.func32 rfl rfl ((wideOf_c _ _)) rfl (by repeat (first | exact .refl _ | apply Les.cons | exact .nil)) rfl rfl ?_)
        refine xAll (rs := [5, 6, 7]) (by kernel_rfl) rfl ⟨?_, ?_, ?_, trivial⟩
        · (refine iC rfl Tryz.func32 rfl rfl ((wideOf_c _ _)) rfl (by repeat (first | exact .refl _ | apply Les.cons | exact .nil)) rfl rfl ?_)
          refine xAll (rs := [6, 7]) (by kernel_rfl) rfl ⟨?_, ?_, trivial⟩
          · (refine iE rfl (e_alloc rfl rfl rfl) rfl rfl ?_)
            refine xAll (rs := [7]) (by kernel_rfl) rfl ⟨?_, trivial⟩
            · (refine iE rfl (e_alloc rfl rfl rfl) rfl rfl ?_)
              refine xAll (rs := [8]) (by kernel_rfl) rfl ⟨?_, trivial⟩
              · (refine iE rfl (e_store rfl rfl rfl rfl rfl rfl rfl) rfl rfl ?_)
                refine xAll (rs := [9]) (by kernel_rfl) rfl ⟨?_, trivial⟩
                · (refine iE rfl (e_store rfl rfl rfl rfl rfl rfl rfl) rfl rfl ?_)
                  exact xEnd (by kernel_rfl) ⟨rfl, by (repeat (first | exact sub_nil | refine sub_cons rfl ?_)), by (repeat (first | exact subH_nil | refine subH_cons rfl ?_))⟩
          · (refine iE rfl (e_alloc rfl rfl rfl) rfl rfl ?_)
            refine xAll (rs := [6]) (by kernel_rfl) rfl ⟨?_, trivial⟩
            · (refine iE rfl (e_alloc rfl rfl rfl) rfl rfl ?_)
              refine xAll (rs := [8]) (by kernel_rfl) rfl ⟨?_, trivial⟩
              · (refine iE rfl (e_store rfl rfl rfl rfl rfl rfl rfl) rfl rfl ?_)
                refine xAll (rs := [9]) (by kernel_rfl) rfl ⟨?_, trivial⟩
                · (refine iE rfl (e_store rfl rfl rfl rfl rfl rfl rfl) rfl rfl ?_)
                  exact xEnd (by kernel_rfl) ⟨rfl, by (repeat (first | exact sub_nil | refine sub_cons rfl ?_)), by (repeat (first | exact subH_nil | refine subH_cons rfl ?_))⟩
        · (refine iE rfl (e_alloc rfl rfl rfl) rfl rfl ?_)
          refine xAll (rs := [5, 7]) (by kernel_rfl) rfl ⟨?_, ?_, trivial⟩
          · (refine iC rfl Tryz.func32 rfl rfl ((wideOf_c _ _)) rfl (by repeat (first | exact .refl _ | apply Les.cons | exact .nil)) rfl rfl ?_)
            refine xAll (rs := [7]) (by kernel_rfl) rfl ⟨?_, trivial⟩
            · (refine iE rfl (e_alloc rfl rfl rfl) rfl rfl ?_)
              refine xAll (rs := [8]) (by kernel_rfl) rfl ⟨?_, trivial⟩
              · (refine iE rfl (e_store rfl rfl rfl rfl rfl rfl rfl) rfl rfl ?_)
                refine xAll (rs := [9]) (by kernel_rfl) rfl ⟨?_, trivial⟩
                · (refine iE rfl (e_store rfl rfl rfl rfl rfl rfl rfl) rfl rfl ?_)
                  exact xEnd (by kernel_rfl) ⟨rfl, by (repeat (first | exact sub_nil | refine sub_cons rfl ?_)), by (repeat (first | exact subH_nil | refine subH_cons rfl ?_))⟩
          · (refine iE rfl (e_alloc rfl rfl rfl) rfl rfl ?_)
            refine xAll (rs := [5]) (by kernel_rfl) rfl ⟨?_, trivial⟩
            · (refine iC rfl Tryz.func32 rfl rfl ((wideOf_c _ _)) rfl (by repeat (first | exact .refl _ | apply Les.cons | exact .nil)) rfl rfl ?_)
              refine xAll (rs := [8]) (by kernel_rfl) rfl ⟨?_, trivial⟩
              · (refine iE rfl (e_store rfl rfl rfl rfl rfl rfl rfl) rfl rfl ?_)
                refine xAll (rs := [9]) (by kernel_rfl) rfl ⟨?_, trivial⟩
                · (refine iE rfl (e_store rfl rfl rfl rfl rfl rfl rfl) rfl rfl ?_)
                  exact xEnd (by kernel_rfl) ⟨rfl, by (repeat (first | exact sub_nil | refine sub_cons rfl ?_)), by (repeat (first | exact subH_nil | refine subH_cons rfl ?_))⟩
        · (refine iE rfl (e_alloc rfl rfl rfl) rfl rfl ?_)
          refine xAll (rs := [5, 6]) (by kernel_rfl) rfl ⟨?_, ?_, trivial⟩
          · (refine iC rfl Tryz.func32 rfl rfl ((wideOf_c _ _)) rfl (by repeat (first | exact .refl _ | apply Les.cons | exact .nil)) rfl rfl ?_)
            refine xAll (rs := [6]) (by kernel_rfl) rfl ⟨?_, trivial⟩
            · (refine iE rfl (e_alloc rfl rfl rfl) rfl rfl ?_)
              refine xAll (rs := [8]) (by kernel_rfl) rfl ⟨?_, trivial⟩
              · (refine iE rfl (e_store rfl rfl rfl rfl rfl rfl rfl) rfl rfl ?_)
                refine xAll (rs := [9]) (by kernel_rfl) rfl ⟨?_, trivial⟩
                · (refine iE rfl (e_store rfl rfl rfl rfl rfl rfl rfl) rfl rfl ?_)
                  exact xEnd (by kernel_rfl) ⟨rfl, by (repeat (first | exact sub_nil | refine sub_cons rfl ?_)), by (repeat (first | exact subH_nil | refine subH_cons rfl ?_))⟩
          · (refine iE rfl (e_alloc rfl rfl rfl) rfl rfl ?_)
            refine xAll (rs := [5]) (by kernel_rfl) rfl ⟨?_, trivial⟩
            · (refine iC rfl Tryz.func32 rfl rfl ((wideOf_c _ _)) rfl (by repeat (first | exact .refl _ | apply Les.cons | exact .nil)) rfl rfl ?_)
              refine xAll (rs := [8]) (by kernel_rfl) rfl ⟨?_, trivial⟩
              · (refine iE rfl (e_store rfl rfl rfl rfl rfl rfl rfl) rfl rfl ?_)
                refine xAll (rs := [9]) (by kernel_rfl) rfl ⟨?_, trivial⟩
                · (refine iE rfl (e_store rfl rfl rfl rfl rfl rfl rfl) rfl rfl ?_)
                  exact xEnd (by kernel_rfl) ⟨rfl, by (repeat (first | exact sub_nil | refine sub_cons rfl ?_)), by (repeat (first | exact subH_nil | refine subH_cons rfl ?_))⟩
      · (refine iE rfl (e_alloc rfl rfl rfl) rfl rfl ?_)
        refine xAll (rs := [2, 7]) (by kernel_rfl) rfl ⟨?_, ?_, trivial⟩
        · (refine iC rfl Tryz.func32 rfl rfl ((wideOf_c _ _)) rfl (by repeat (first | exact .refl _ | apply Les.cons | exact .nil)) rfl rfl ?_)
          refine xAll (rs := [5, 7]) (by kernel_rfl) rfl ⟨?_, ?_, trivial⟩
          · (refine iC rfl Tryz.func32 rfl rfl ((wideOf_c _ _)) rfl (by repeat (first | exact .refl _ | apply Les.cons | exact .nil)) rfl rfl ?_)
            refine xAll (rs := [7]) (by kernel_rfl) rfl ⟨?_, trivial⟩
            · (refine iE rfl (e_alloc rfl rfl rfl) rfl rfl ?_)
              refine xAll (rs := [8]) (by kernel_rfl) rfl ⟨?_, trivial⟩
              · (refine iE rfl (e_store rfl rfl rfl rfl rfl rfl rfl) rfl rfl ?_)
                refine xAll (rs := [9]) (by kernel_rfl) rfl ⟨?_, trivial⟩
                · (refine iE rfl (e_store rfl rfl rfl rfl rfl rfl rfl) rfl rfl ?_)
                  exact xEnd (by kernel_rfl) ⟨rfl, by (repeat (first | exact sub_nil | refine sub_cons rfl ?_)), by (repeat (first | exact subH_nil | refine subH_cons rfl ?_))⟩
          · (refine iE rfl (e_alloc rfl rfl rfl) rfl rfl ?_)
            refine xAll (rs := [5]) (by kernel_rfl) rfl ⟨?_, trivial⟩
            · (refine iC rfl Tryz.func32 rfl rfl ((wideOf_c _ _)) rfl (by repeat (first | exact .refl _ | apply Les.cons | exact .nil)) rfl rfl ?_)
              refine xAll (rs := [8]) (by kernel_rfl) rfl ⟨?_, trivial⟩
              · (refine iE rfl (e_store rfl rfl rfl rfl rfl rfl rfl) rfl rfl ?_)
                refine xAll (rs := [9]) (by kernel_rfl) rfl ⟨?_, trivial⟩
                · (refine iE rfl (e_store rfl rfl rfl rfl rfl rfl rfl) rfl rfl ?_)
                  exact xEnd (by kernel_rfl) ⟨rfl, by (repeat (first | exact sub_nil | refine sub_cons rfl ?_)), by (repeat (first | exact subH_nil | refine subH_cons rfl ?_))⟩
        · (refine iE rfl (e_alloc rfl rfl rfl) rfl rfl ?_)
          refine xAll (rs := [2]) (by kernel_rfl) rfl ⟨?_, trivial⟩
          · (refine iC rfl Tryz.func32 rfl rfl ((wideOf_c _ _)) rfl (by repeat (first | exact .refl _ | apply Les.cons | exact .nil)) rfl rfl ?_)
            refine xAll (rs := [5]) (by kernel_rfl) rfl ⟨?_, trivial⟩
            · (refine iC rfl Tryz.func32 rfl rfl ((wideOf_c _ _)) rfl (by repeat (first | exact .refl _ | apply Les.cons | exact .nil)) rfl rfl ?_)
              refine xAll (rs := [8]) (by kernel_rfl) rfl ⟨?_, trivial⟩
              · (refine iE rfl (e_store rfl rfl rfl rfl rfl rfl rfl) rfl rfl ?_)
                refine xAll (rs := [9]) (by kernel_rfl) rfl ⟨?_, trivial⟩
                · (refine iE rfl (e_store rfl rfl rfl rfl rfl rfl rfl) rfl rfl ?_)
                  exact xEnd (by kernel_rfl) ⟨rfl, by (repeat (first | exact sub_nil | refine sub_cons rfl ?_)), by (repeat (first | exact subH_nil | refine subH_cons rfl ?_))⟩
      · (refine iE rfl (e_alloc rfl rfl rfl) rfl rfl ?_)
        refine xAll (rs := [2, 6]) (by kernel_rfl) rfl ⟨?_, ?_, trivial⟩
        · (refine iC rfl Tryz.func32 rfl rfl ((wideOf_c _ _)) rfl (by repeat (first | exact .refl _ | apply Les.cons | exact .nil)) rfl rfl ?_)
          refine xAll (rs := [5, 6]) (by kernel_rfl) rfl ⟨?_, ?_, trivial⟩
          · (refine iC rfl Tryz.func32 rfl rfl ((wideOf_c _ _)) rfl (by repeat (first | exact .refl _ | apply Les.cons | exact .nil)) rfl rfl ?_)
            refine xAll (rs := [6]) (by kernel_rfl) rfl ⟨?_, trivial⟩
            · (refine iE rfl (e_alloc rfl rfl rfl) rfl rfl ?_)
              refine xAll (rs := [8]) (by kernel_rfl) rfl ⟨?_, trivial⟩
              · (refine iE rfl (e_store rfl rfl rfl rfl rfl rfl rfl) rfl rfl ?_)
                refine xAll (rs := [9]) (by kernel_rfl) rfl ⟨?_, trivial⟩
                · (refine iE rfl (e_store rfl rfl rfl rfl rfl rfl rfl) rfl rfl ?_)
                  exact xEnd (by kernel_rfl) ⟨rfl, by (repeat (first | exact sub_nil | refine sub_cons rfl ?_)), by (repeat (first | exact subH_nil | refine subH_cons rfl ?_))⟩
          · (refine iE rfl (e_alloc rfl rfl rfl) rfl rfl ?_)
            refine xAll (rs := [5]) (by kernel_rfl) rfl ⟨?_, trivial⟩
            · (refine iC rfl Tryz.func32 rfl rfl ((wideOf_c _ _)) rfl (by repeat (first | exact .refl _ | apply Les.cons | exact .nil)) rfl rfl ?_)
              refine xAll (rs := [8]) (by kernel_rfl) rfl ⟨?_, trivial⟩
              · (refine iE rfl (e_store rfl rfl rfl rfl rfl rfl rfl) rfl rfl ?_)
                refine xAll (rs := [9]) (by kernel_rfl) rfl ⟨?_, trivial⟩
                · (refine iE rfl (e_store rfl rfl rfl rfl rfl rfl rfl) rfl rfl ?_)
                  exact xEnd (by kernel_rfl) ⟨rfl, by (repeat (first | exact sub_nil | refine sub_cons rfl ?_)), by (repeat (first | exact subH_nil | refine subH_cons rfl ?_))⟩
        · (refine iE rfl (e_alloc rfl rfl rfl) rfl rfl ?_)
          refine xAll (rs := [2]) (by kernel_rfl) rfl ⟨?_, trivial⟩
          · (refine iC rfl Tryz.func32 rfl rfl ((wideOf_c _ _)) rfl (by repeat (first | exact .refl _ | apply Les.cons | exact .nil)) rfl rfl ?_)
            refine xAll (rs := [5]) (by kernel_rfl) rfl ⟨?_, trivial⟩
            · (refine iC rfl Tryz.func32 rfl rfl ((wideOf_c _ _)) rfl (by repeat (first | exact .refl _ | apply Les.cons | exact .nil)) rfl rfl ?_)
              refine xAll (rs := [8]) (by kernel_rfl) rfl ⟨?_, trivial⟩
              · (refine iE rfl (e_store rfl rfl rfl rfl rfl rfl rfl) rfl rfl ?_)
                refine xAll (rs := [9]) (by kernel_rfl) rfl ⟨?_, trivial⟩
                · (refine iE rfl (e_store rfl rfl rfl rfl rfl rfl rfl) rfl rfl ?_)
                  exact xEnd (by kernel_rfl) ⟨rfl, by (repeat (first | exact sub_nil | refine sub_cons rfl ?_)), by (repeat (first | exact subH_nil | refine subH_cons rfl ?_))⟩
    repeat (refine seq_ ?_)
    refine draw_ [(0, true), (1, true), (3, true), (5, true), (6, true), (8, true), (11, true), (12, true), (2, false), (4, false), (7, false), (9, false), (10, false), (13, false), (14, false), (15, true), (16, true), (17, false), (18, true)] 1000 [2, 3, 6, 7] mixed (by kernel_rfl) rfl ?_
    ((refine dY rfl (y_fieldAddr rfl) rfl rfl rfl rfl ?_); refine dY rfl (y_loadA rfl rfl rfl) rfl rfl rfl rfl ?_; refine dY rfl (y_loadA rfl rfl rfl) rfl rfl rfl rfl ?_; refine dY rfl (y_fieldAddr rfl) rfl rfl rfl rfl ?_; refine dY rfl (y_loadA rfl rfl rfl) rfl rfl rfl rfl ?_; refine dY rfl (y_loadA rfl rfl rfl) rfl rfl rfl rfl ?_; refine dY rfl (y_loadA rfl rfl rfl) rfl rfl rfl rfl ?_; refine dY rfl (y_loadA rfl rfl rfl) rfl rfl rfl rfl ?_)
    refine dC rfl Tryz.func32 rfl rfl (wideOf_c p m) rfl (by repeat (first | exact .refl _ | apply Les.cons | exact .nil)) rfl rfl ?_
    skip
    refine dC rfl Tryz.func34 rfl rfl (ht1) rfl (by repeat (first | exact .refl _ | apply Les.cons | exact .nil)) rfl rfl ?_
    skip
    refine dC rfl Tryz.func32 rfl rfl (wideOf_c p' m') rfl (by repeat (first | exact .refl _ | apply Les.cons | exact .nil)) rfl rfl ?_
    skip
    refine dC rfl Tryz.func34 rfl rfl (ht2) rfl (by repeat (first | exact .refl _ | apply Les.cons | exact .nil)) rfl rfl ?_
    skip
    refine dC rfl Tryz.func35 rfl rfl (hp) rfl (by repeat (first | exact .refl _ | apply Les.cons | exact .nil)) rfl rfl ?_
    skip
    refine dC rfl Tryz.func34 rfl rfl (ht3) rfl (by repeat (first | exact .refl _ | apply Les.cons | exact .nil)) rfl rfl ?_
    skip
    refine dC rfl Tryz.func31 rfl rfl (hr) rfl (by repeat (first | exact .refl _ | apply Les.cons | exact .nil)) rfl rfl ?_
    ((refine dY rfl (y_extract rfl rfl) rfl rfl rfl rfl ?_); refine dY rfl (y_extract rfl rfl) rfl rfl rfl rfl ?_; (refine dE rfl (e_store rfl rfl rfl rfl rfl rfl rfl) rfl rfl ?_); refine dY rfl (y_assign rfl) rfl rfl rfl rfl ?_; refine dEnd ?_)
    repeat (refine ret_ ?_)
    ((apply fin_r); (repeat (first | exact .nil | exact .tmp rfl | exact .agg rfl rfl rfl | apply ResL.cons)); (repeat (exact .refl _)))
  · rw [resQ_no hok] at *
    refine con_of Tryz.func10 rfl rfl rfl rfl rfl ?_
    repeat (first | refine seq_ ?_ | refine region_ ?_ | refine nil_ ?_ | refine stepY (y_assign rfl) rfl ?_ | refine stepY (y_loadA rfl rfl rfl) rfl ?_ | refine stepE (e_box rfl rfl rfl rfl rfl rfl) ?_ | refine stepE (e_alloc rfl rfl rfl) ?_ | refine stepE (e_bs_vs rfl rfl rfl rfl rfl rfl) ?_)
    refine seal_Ls (i := 10) (h := 10) rfl rfl rfl rfl ?_
    refine call_ Tryz.func33 rfl rfl (hv) rfl (by repeat (first | exact .tags _ _ | apply Les.cons | exact .nil)) rfl ?_
    repeat (first | refine seq_ ?_ | refine nil_ ?_ | refine skip_ ?_ | refine cond_f rfl ?_ | refine stepY (y_not rfl) rfl ?_)
    refine cut_ [(2, .ptr 2 0), (3, .ptr 3 0), (4, .ptr 4 0), (5, .p (E_ 0)), (6, .ptr 6 0), (7, .ptr 7 0)] [(2, .bx [Bo p, M m, Bo false, M d]), (3, .bx [Bo p', M m', Bo false, M d']), (4, .bx [Bo false, .v (.slice none 0 0), Bo false, .v (.slice none 0 0)]), (6, .bx [Bo false, M d]), (7, .bx [Bo false, M d'])] ?_ ?_
    · refine xDraw 1000 [2, 3] mixed ?_
      refine xY (i := 0) (op := .fieldAddr _ _ _) rfl (by (exact y_fieldAddr rfl)) rfl rfl rfl rfl (by kernel_rfl) ?_
      refine xY (i := 1) (op := .load _ _) rfl (by (exact y_loadA rfl rfl rfl)) rfl rfl rfl rfl (by kernel_rfl) ?_
      refine xY (i := 3) (op := .fieldAddr _ _ _) rfl (by (exact y_fieldAddr rfl)) rfl rfl rfl rfl (by kernel_rfl) ?_
      refine xY (i := 4) (op := .load _ _) rfl (by (exact y_loadA rfl rfl rfl)) rfl rfl rfl rfl (by kernel_rfl) ?_
      refine xAll (rs := [2, 6, 7]) (by kernel_rfl) rfl ⟨?_, ?_, ?_, trivial⟩
      · (refine iC rfl Tryz.func32 rfl rfl ((wideOf_c _ _)) rfl (by repeat (first | exact .refl _ | apply Les.cons | exact .nil)) rfl rfl ?_)
        refine xAll (rs := [5, 6, 7]) (by kernel_rfl) rfl ⟨?_, ?_, ?_, trivial⟩
        · (refine iC rfl Tryz.func32 rfl rfl ((wideOf_c _ _)) rfl (by repeat (first | exact .refl _ | apply Les.cons | exact .nil)) rfl rfl ?_)
          refine xAll (rs := [6, 7]) (by kernel_rfl) rfl ⟨?_, ?_, trivial⟩
          · (refine iE rfl (e_alloc rfl rfl rfl) rfl rfl ?_)
            refine xAll (rs := [7]) (by kernel_rfl) rfl ⟨?_, trivial⟩
            · (refine iE rfl (e_alloc rfl rfl rfl) rfl rfl ?_)
              refine xAll (rs := [8]) (by kernel_rfl) rfl ⟨?_, trivial⟩
              · (refine iE rfl (e_store rfl rfl rfl rfl rfl rfl rfl) rfl rfl ?_)
                refine xAll (rs := [9]) (by kernel_rfl) rfl ⟨?_, trivial⟩
                · (refine iE rfl (e_store rfl rfl rfl rfl rfl rfl rfl) rfl rfl ?_)
                  exact xEnd (by kernel_rfl) ⟨rfl, by (repeat (first | exact sub_nil | refine sub_cons rfl ?_)), by (repeat (first | exact subH_nil | refine subH_cons rfl ?_))⟩
          · (refine iE rfl (e_alloc rfl rfl rfl) rfl rfl ?_)
            refine xAll (rs := [6]) (by kernel_rfl) rfl ⟨?_, trivial⟩
            · (refine iE rfl (e_alloc rfl rfl rfl) rfl rfl ?_)
              refine xAll (rs := [8]) (by kernel_rfl) rfl ⟨?_, trivial⟩
              · (refine iE rfl (e_store rfl rfl rfl rfl rfl rfl rfl) rfl rfl ?_)
                refine xAll (rs := [9]) (by kernel_rfl) rfl ⟨?_, trivial⟩
                · (refine iE rfl (e_store rfl rfl rfl rfl rfl rfl rfl) rfl rfl ?_)
                  exact xEnd (by kernel_rfl) ⟨rfl, by (repeat (first | exact sub_nil | refine sub_cons rfl ?_)), by (repeat (first | exact subH_nil | refine subH_cons rfl ?_))⟩
        · (refine iE rfl (e_alloc rfl rfl rfl) rfl rfl ?_)
          refine xAll (rs := [5, 7]) (by kernel_rfl) rfl ⟨?_, ?_, trivial⟩
          · (refine iC rfl Tryz.func32 rfl rfl ((wideOf_c _ _)) rfl (by repeat (first | exact .refl _ | apply Les.cons | exact .nil)) rfl rfl ?_)
            refine xAll (rs := [7]) (by kernel_rfl) rfl ⟨?_, trivial⟩
            · (refine iE rfl (e_alloc rfl rfl rfl) rfl rfl ?_)
              refine xAll (rs := [8]) (by kernel_rfl) rfl ⟨?_, trivial⟩
              · (refine iE rfl (e_store rfl rfl rfl rfl rfl rfl rfl) rfl rfl ?_)
                refine xAll (rs := [9]) (by kernel_rfl) rfl ⟨?_, trivial⟩
                · (refine iE rfl (e_store rfl rfl rfl rfl rfl rfl rfl) rfl rfl ?_)
                  exact xEnd (by kernel_rfl) ⟨rfl, by (repeat (first | exact sub_nil | refine sub_cons rfl ?_)), by (repeat (first | exact subH_nil | refine subH_cons rfl ?_))⟩
          · (refine iE rfl (e_alloc rfl rfl rfl) rfl rfl ?_)
            refine xAll (rs := [5]) (by kernel_rfl) rfl ⟨?_, trivial⟩
            · (refine iC rfl Tryz.func32 rfl rfl ((wideOf_c _ _)) rfl (by repeat (first | exact .refl _ | apply Les.cons | exact .nil)) rfl rfl ?_)
              refine xAll (rs := [8]) (by kernel_rfl) rfl ⟨?_, trivial⟩
              · (refine iE rfl (e_store rfl rfl rfl rfl rfl rfl rfl) rfl rfl ?_)
                refine xAll (rs := [9]) (by kernel_rfl) rfl ⟨?_, trivial⟩
                · (refine iE rfl (e_store rfl rfl rfl rfl rfl rfl rfl) rfl rfl ?_)
                  exact xEnd (by kernel_rfl) ⟨rfl, by (repeat (first | exact sub_nil | refine sub_cons rfl ?_)), by (repeat (first | exact subH_nil | refine subH_cons rfl ?_))⟩
        · (refine iE rfl (e_alloc rfl rfl rfl) rfl rfl ?_)
          refine xAll (rs := [5, 6]) (by kernel_rfl) rfl ⟨?_, ?_, trivial⟩
          · (refine iC rfl Tryz.func32 rfl rfl ((wideOf_c _ _)) rfl (by repeat (first | exact .refl _ | apply Les.cons | exact .nil)) rfl rfl ?_)
            refine xAll (rs := [6]) (by kernel_rfl) rfl ⟨?_, trivial⟩
            · (refine iE rfl (e_alloc rfl rfl rfl) rfl rfl ?_)
              refine xAll (rs := [8]) (by kernel_rfl) rfl ⟨?_, trivial⟩
              · (refine iE rfl (e_store rfl rfl rfl rfl rfl rfl rfl) rfl rfl ?_)
                refine xAll (rs := [9]) (by kernel_rfl) rfl ⟨?_, trivial⟩
                · (refine iE rfl (e_store rfl rfl rfl rfl rfl rfl rfl) rfl rfl ?_)
                  exact xEnd (by kernel_rfl) ⟨rfl, by (repeat (first | exact sub_nil | refine sub_cons rfl ?_)), by (repeat (first | exact subH_nil | refine subH_cons rfl ?_))⟩
          · (refine iE rfl (e_alloc rfl rfl rfl) rfl rfl ?_)
            refine xAll (rs := [5]) (by kernel_rfl) rfl ⟨?_, trivial⟩
            · (refine iC rfl Tryz.func32 rfl rfl ((wideOf_c _ _)) rfl (by repeat (first | exact .refl _ | apply Les.cons | exact .nil)) rfl rfl ?_)
              refine xAll (rs := [8]) (by kernel_rfl) rfl ⟨?_, trivial⟩
              · (refine iE rfl (e_store rfl rfl rfl rfl rfl rfl rfl) rfl rfl ?_)
                refine xAll (rs := [9]) (by kernel_rfl) rfl ⟨?_, trivial⟩
                · (refine iE rfl (e_store rfl rfl rfl rfl rfl rfl rfl) rfl rfl ?_)
                  exact xEnd (by kernel_rfl) ⟨rfl, by (repeat (first | exact sub_nil | refine sub_cons rfl ?_)), by (repeat (first | exact subH_nil | refine subH_cons rfl ?_))⟩
      · (refine iE rfl (e_alloc rfl rfl rfl) rfl rfl ?_)
        refine xAll (rs := [2, 7]) (by kernel_rfl) rfl ⟨?_, ?_, trivial⟩
        · (refine iC rfl Tryz.func32 rfl rfl ((wideOf_c _ _)) rfl (by repeat (first | exact .refl _ | apply Les.cons | exact .nil)) rfl rfl ?_)
          refine xAll (rs := [5, 7]) (by kernel_rfl) rfl ⟨?_, ?_, trivial⟩
          · (refine iC rfl Tryz.func32 rfl rfl ((wideOf_c _ _)) rfl (by repeat (first | exact .refl _ | apply Les.cons | exact .nil)) rfl rfl ?_)
            refine xAll (rs := [7]) (by kernel_rfl) rfl ⟨?_, trivial⟩
            · (refine iE rfl (e_alloc rfl rfl rfl) rfl rfl ?_)
              refine xAll (rs := [8]) (by kernel_rfl) rfl ⟨?_, trivial⟩
              · (refine iE rfl (e_store rfl rfl rfl rfl rfl rfl rfl) rfl rfl ?_)
                refine xAll (rs := [9]) (by kernel_rfl) rfl ⟨?_, trivial⟩
                · (refine iE rfl (e_store rfl rfl rfl rfl rfl rfl rfl) rfl rfl ?_)
                  exact xEnd (by kernel_rfl) ⟨rfl, by (repeat (first | exact sub_nil | refine sub_cons rfl ?_)), by (repeat (first | exact subH_nil | refine subH_cons rfl ?_))⟩
          · (refine iE rfl (e_alloc rfl rfl rfl) rfl rfl ?_)
            refine xAll (rs := [5]) (by kernel_rfl) rfl ⟨?_, trivial⟩
            · (refine iC rfl Tryz.func32 rfl rfl ((wideOf_c _ _)) rfl (by repeat (first | exact .refl _ | apply Les.cons | exact .nil)) rfl rfl ?_)
              refine xAll (rs := [8]) (by kernel_rfl) rfl ⟨?_, trivial⟩
              · (refine iE rfl (e_store rfl rfl rfl rfl rfl rfl rfl) rfl rfl ?_)
                refine xAll (rs := [9]) (by kernel_rfl) rfl ⟨?_, trivial⟩
                · (refine iE rfl (e_store rfl rfl rfl rfl rfl rfl rfl) rfl rfl ?_)
                  exact xEnd (by kernel_rfl) ⟨rfl, by (repeat (first | exact sub_nil | refine sub_cons rfl ?_)), by (repeat (first | exact subH_nil | refine subH_cons rfl ?_))⟩
        · (refine iE rfl (e_alloc rfl rfl rfl) rfl rfl ?_)
          refine xAll (rs := [2]) (by kernel_rfl) rfl ⟨?_, trivial⟩
          · (refine iC rfl Tryz.func32 rfl rfl ((wideOf_c _ _)) rfl (by repeat (first | exact .refl _ | apply Les.cons | exact .nil)) rfl rfl ?_)
            refine xAll (rs := [5]) (by kernel_rfl) rfl ⟨?_, trivial⟩
            · (refine iC rfl Tryz.func32 rfl rfl ((wideOf_c _ _)) rfl (by repeat (first | exact .refl _ | apply Les.cons | exact .nil)) rfl rfl ?_)
              refine xAll (rs := [8]) (by kernel_rfl) rfl ⟨?_, trivial⟩
              · (refine iE rfl (e_store rfl rfl rfl rfl rfl rfl rfl) rfl rfl ?_)
                refine xAll (rs := [9]) (by kernel_rfl) rfl ⟨?_, trivial⟩
                · (refine iE rfl (e_store rfl rfl rfl rfl rfl rfl rfl) rfl rfl ?_)
                  exact xEnd (by kernel_rfl) ⟨rfl, by (repeat (first | exact sub_nil | refine sub_cons rfl ?_)), by (repeat (first | exact subH_nil | refine subH_cons rfl ?_))⟩
      · (refine iE rfl (e_alloc rfl rfl rfl) rfl rfl ?_)
        refine xAll (rs := [2, 6]) (by kernel_rfl) rfl ⟨?_, ?_, trivial⟩
        · (refine iC rfl Tryz.func32 rfl rfl ((wideOf_c _ _)) rfl (by repeat (first | exact .refl _ | apply Les.cons | exact .nil)) rfl rfl ?_)
          refine xAll (rs := [5, 6]) (by kernel_rfl) rfl ⟨?_, ?_, trivial⟩
          · (refine iC rfl Tryz.func32 rfl rfl ((wideOf_c _ _)) rfl (by repeat (first | exact .refl _ | apply Les.cons | exact .nil)) rfl rfl ?_)
            refine xAll (rs := [6]) (by kernel_rfl) rfl ⟨?_, trivial⟩
            · (refine iE rfl (e_alloc rfl rfl rfl) rfl rfl ?_)
              refine xAll (rs := [8]) (by kernel_rfl) rfl ⟨?_, trivial⟩
              · (refine iE rfl (e_store rfl rfl rfl rfl rfl rfl rfl) rfl rfl ?_)
                refine xAll (rs := [9]) (by kernel_rfl) rfl ⟨?_, trivial⟩
                · (refine iE rfl (e_store rfl rfl rfl rfl rfl rfl rfl) rfl rfl ?_)
                  exact xEnd (by kernel_rfl) ⟨rfl, by (repeat (first | exact sub_nil | refine sub_cons rfl ?_)), by (repeat (first | exact subH_nil | refine subH_cons rfl ?_))⟩
          · (refine iE rfl (e_alloc rfl rfl rfl) rfl rfl ?_)
            refine xAll (rs := [5]) (by kernel_rfl) rfl ⟨?_, trivial⟩
            · (refine iC rfl Tryz.func32 rfl rfl ((wideOf_c _ _)) rfl (by repeat (first | exact .refl _ | apply Les.cons | exact .nil)) rfl rfl ?_)
              refine xAll (rs := [8]) (by kernel_rfl) rfl ⟨?_, trivial⟩
              · (refine iE rfl (e_store rfl rfl rfl rfl rfl rfl rfl) rfl rfl ?_)
                refine xAll (rs := [9]) (by kernel_rfl) rfl ⟨?_, trivial⟩
                · (refine iE rfl (e_store rfl rfl rfl rfl rfl rfl rfl) rfl rfl ?_)
                  exact xEnd (by kernel_rfl) ⟨rfl, by (repeat (first | exact sub_nil | refine sub_cons rfl ?_)), by (repeat (first | exact subH_nil | refine subH_cons rfl ?_))⟩
        · (refine iE rfl (e_alloc rfl rfl rfl) rfl rfl ?_)
          refine xAll (rs := [2]) (by kernel_rfl) rfl ⟨?_, trivial⟩
          · (refine iC rfl Tryz.func32 rfl rfl ((wideOf_c _ _)) rfl (by repeat (first | exact .refl _ | apply Les.cons | exact .nil)) rfl rfl ?_)
            refine xAll (rs := [5]) (by kernel_rfl) rfl ⟨?_, trivial⟩
            · (refine iC rfl Tryz.func32 rfl rfl ((wideOf_c _ _)) rfl (by repeat (first | exact .refl _ | apply Les.cons | exact .nil)) rfl rfl ?_)
              refine xAll (rs := [8]) (by kernel_rfl) rfl ⟨?_, trivial⟩
              · (refine iE rfl (e_store rfl rfl rfl rfl rfl rfl rfl) rfl rfl ?_)
                refine xAll (rs := [9]) (by kernel_rfl) rfl ⟨?_, trivial⟩
                · (refine iE rfl (e_store rfl rfl rfl rfl rfl rfl rfl) rfl rfl ?_)
                  exact xEnd (by kernel_rfl) ⟨rfl, by (repeat (first | exact sub_nil | refine sub_cons rfl ?_)), by (repeat (first | exact subH_nil | refine subH_cons rfl ?_))⟩
    repeat (refine seq_ ?_)
    refine draw_ [(0, true), (1, true), (3, true), (5, true), (6, true), (8, true), (11, true), (12, true), (2, false), (4, false), (7, false), (9, false), (10, false), (13, false), (14, false), (15, true), (16, true), (17, false), (18, true)] 1000 [2, 3, 6, 7] mixed (by kernel_rfl) rfl ?_
    ((refine dY rfl (y_fieldAddr rfl) rfl rfl rfl rfl ?_); refine dY rfl (y_loadA rfl rfl rfl) rfl rfl rfl rfl ?_; refine dY rfl (y_loadA rfl rfl rfl) rfl rfl rfl rfl ?_; refine dY rfl (y_fieldAddr rfl) rfl rfl rfl rfl ?_; refine dY rfl (y_loadA rfl rfl rfl) rfl rfl rfl rfl ?_; refine dY rfl (y_loadA rfl rfl rfl) rfl rfl rfl rfl ?_; refine dY rfl (y_loadA rfl rfl rfl) rfl rfl rfl rfl ?_; refine dY rfl (y_loadA rfl rfl rfl) rfl rfl rfl rfl ?_)
    refine dC rfl Tryz.func32 rfl rfl (wideOf_c p m) rfl (by repeat (first | exact .refl _ | apply Les.cons | exact .nil)) rfl rfl ?_
    skip
    refine dC rfl Tryz.func34 rfl rfl (ht1) rfl (by repeat (first | exact .refl _ | apply Les.cons | exact .nil)) rfl rfl ?_
    skip
    refine dC rfl Tryz.func32 rfl rfl (wideOf_c p' m') rfl (by repeat (first | exact .refl _ | apply Les.cons | exact .nil)) rfl rfl ?_
    skip
    refine dC rfl Tryz.func34 rfl rfl (ht2) rfl (by repeat (first | exact .refl _ | apply Les.cons | exact .nil)) rfl rfl ?_
    skip
    refine dC rfl Tryz.func35 rfl rfl (hp) rfl (by repeat (first | exact .refl _ | apply Les.cons | exact .nil)) rfl rfl ?_
    skip
    refine dC rfl Tryz.func34 rfl rfl (ht3) rfl (by repeat (first | exact .refl _ | apply Les.cons | exact .nil)) rfl rfl ?_
    skip
    refine dC rfl Tryz.func31 rfl rfl (hr) rfl (by repeat (first | exact .refl _ | apply Les.cons | exact .nil)) rfl rfl ?_
    ((refine dY rfl (y_extract rfl rfl) rfl rfl rfl rfl ?_); refine dY rfl (y_extract rfl rfl) rfl rfl rfl rfl ?_; (refine dE rfl (e_store rfl rfl rfl rfl rfl rfl rfl) rfl rfl ?_); refine dY rfl (y_assign rfl) rfl rfl rfl rfl ?_; refine dEnd ?_)
    repeat (refine ret_ ?_)
    ((apply fin_r); (repeat (first | exact .nil | exact .tmp rfl | exact .agg rfl rfl rfl | apply ResL.cons)); (repeat (exact .refl _)))
theorem FSub_g (p p' : Bool) (m m' d d' : Nat) (h : vG p m d) (h' : vG p' m' d') : Con Tryz.prog 11 [GF p m d, GF p' m' d'] (resQ (mkRat (sgn p m) d - mkRat (sgn p' m') d')) := by
  have hv := valid2_t h h'
  obtain ⟨b1, b2, b3, b4, b5, b6⟩ := vG_bd h
  obtain ⟨c1, c2, c3, c4, c5, c6⟩ := vG_bd h'
  have ht1 := wtimes_c p false m d' (by omega) (by omega)
  have ht2 := wtimes_c p' false m' d (by omega) (by omega)
  have ht3 := wtimes_c false false d d' (by omega) (by omega)
  rw [Bool.bne_false] at ht1 ht2 ht3
  have hmi := wminus_c p' (m' * d)
  have e1 := ln_mul b1 c2
  have e2 := ln_mul c1 b2
  have e3 := ln_mul b2 c2
  have hp := wplus_c p (!p') (m * d') (m' * d) (by omega) (by omega)
  have e4 := ln_addA (p := p) (q := !p') e1 e2
  have hr := reduced_c (addN p (!p') (m * d') (m' * d)) false (addA p (!p') (m * d') (m' * d)) (d * d') (Nat.mul_pos b3 c3) (by omega) (by omega)
  rw [Bool.bne_false, addA_val, sgn_mulr, sgn_mulr, ← Rat.mkRat_add_mkRat _ _ (by omega) (by omega), sgn_not, ← Rat.neg_mkRat, ← Rat.sub_eq_add_neg] at hr
  generalize mkRat (sgn p m) d - mkRat (sgn p' m') d' = x at *
  by_cases hok : okQ x
  · rw [resQ_ok hok] at *
    refine con_of Tryz.func11 rfl rfl rfl rfl rfl ?_
    repeat (first | refine seq_ ?_ | refine region_ ?_ | refine nil_ ?_ | refine stepY (y_assign rfl) rfl ?_ | refine stepY (y_loadA rfl rfl rfl) rfl ?_ | refine stepE (e_box rfl rfl rfl rfl rfl rfl) ?_ | refine stepE (e_alloc rfl rfl rfl) ?_ | refine stepE (e_bs_vs rfl rfl rfl rfl rfl rfl) ?_)
    refine seal_Ls (i := 10) (h := 10) rfl rfl rfl rfl ?_
    refine call_ Tryz.func33 rfl rfl (hv) rfl (by repeat (first | exact .tags _ _ | apply Les.cons | exact .nil)) rfl ?_
    repeat (first | refine seq_ ?_ | refine nil_ ?_ | refine skip_ ?_ | refine cond_f rfl ?_ | refine stepY (y_not rfl) rfl ?_)
    refine cut_ [(2, .ptr 2 0), (3, .ptr 3 0), (4, .ptr 4 0), (5, .p (E_ 0)), (6, .ptr 6 0), (7, .ptr 7 0)] [(2, .bx [Bo p, M m, Bo false, M d]), (3, .bx [Bo p', M m', Bo false, M d']), (4, .bx [Bo false, .v (.slice none 0 0), Bo false, .v (.slice none 0 0)]), (6, .bx [Bo false, M d]), (7, .bx [Bo false, M d'])] ?_ ?_
    · refine xDraw 1000 [2, 3] mixed ?_
      refine xY (i := 0) (op := .fieldAddr _ _ _) rfl (by (exact y_fieldAddr rfl)) rfl rfl rfl rfl (by kernel_rfl) ?_
      refine xY (i := 1) (op := .load _ _) rfl (by (exact y_loadA rfl rfl rfl)) rfl rfl rfl rfl (by kernel_rfl) ?_
      refine xY (i := 3) (op := .fieldAddr _ _ _) rfl (by (exact y_fieldAddr rfl)) rfl rfl rfl rfl (by kernel_rfl) ?_
      refine xY (i := 4) (op := .load _ _) rfl (by (exact y_loadA rfl rfl rfl)) rfl rfl rfl rfl (by kernel_rfl) ?_
      refine xAll (rs := [2, 6, 7]) (by kernel_rfl) rfl ⟨?_, ?_, ?_, trivial⟩
      · (refine iC rfl Tryz.func32 rfl rfl ((wideOf_c _ _)) rfl (by repeat (first | exact .refl _ | apply Les.cons | exact .nil)) rfl rfl ?_)
        refine xAll (rs := [5, 6, 7]) (by kernel_rfl) rfl ⟨?_, ?_, ?_, trivial⟩
        · (refine iC rfl Tryz.func32 rfl rfl ((wideOf_c _ _)) rfl (by repeat (first | exact .refl _ | apply Les.cons | exact .nil)) rfl rfl ?_)
          refine xAll (rs := [6, 7]) (by kernel_rfl) rfl ⟨?_, ?_, trivial⟩
          · (refine iE rfl (e_alloc rfl rfl rfl) rfl rfl ?_)
            refine xAll (rs := [7]) (by kernel_rfl) rfl ⟨?_, trivial⟩
            · (refine iE rfl (e_alloc rfl rfl rfl) rfl rfl ?_)
              refine xAll (rs := [8]) (by kernel_rfl) rfl ⟨?_, trivial⟩
              · (refine iE rfl (e_store rfl rfl rfl rfl rfl rfl rfl) rfl rfl ?_)
                refine xAll (rs := [9]) (by kernel_rfl) rfl ⟨?_, trivial⟩
                · (refine iE rfl (e_store rfl rfl rfl rfl rfl rfl rfl) rfl rfl ?_)
                  exact xEnd (by kernel_rfl) ⟨rfl, by (repeat (first | exact sub_nil | refine sub_cons rfl ?_)), by (repeat (first | exact subH_nil | refine subH_cons rfl ?_))⟩
          · (refine iE rfl (e_alloc rfl rfl rfl) rfl rfl ?_)
            refine xAll (rs := [6]) (by kernel_rfl) rfl ⟨?_, trivial⟩
            · (refine iE rfl (e_alloc rfl rfl rfl) rfl rfl ?_)
              refine xAll (rs := [8]) (by kernel_rfl) rfl ⟨?_, trivial⟩
              · (refine iE rfl (e_store rfl rfl rfl rfl rfl rfl rfl) rfl rfl ?_)
                refine xAll (rs := [9]) (by kernel_rfl) rfl ⟨?_, trivial⟩
                · (refine iE rfl (e_store rfl rfl rfl rfl rfl rfl rfl) rfl rfl ?_)
                  exact xEnd (by kernel_rfl) ⟨rfl, by (repeat (first | exact sub_nil | refine sub_cons rfl ?_)), by (repeat (first | exact subH_nil | refine subH_cons rfl ?_))⟩
        · (refine iE rfl (e_alloc rfl rfl rfl) rfl rfl ?_)
          refine xAll (rs := [5, 7]) (by kernel_rfl) rfl ⟨?_, ?_, trivial⟩
          · (refine iC rfl Tryz.func32 rfl rfl ((wideOf_c _ _)) rfl (by repeat (first | exact .refl _ | apply Les.cons | exact .nil)) rfl rfl ?_)
            refine xAll (rs := [7]) (by kernel_rfl) rfl ⟨?_, trivial⟩
            · (refine iE rfl (e_alloc rfl rfl rfl) rfl rfl ?_)
              refine xAll (rs := [8]) (by kernel_rfl) rfl ⟨?_, trivial⟩
              · (refine iE rfl (e_store rfl rfl rfl rfl rfl rfl rfl) rfl rfl ?_)
                refine xAll (rs := [9]) (by kernel_rfl) rfl ⟨?_, trivial⟩
                · (refine iE rfl (e_store rfl rfl rfl rfl rfl rfl rfl) rfl rfl ?_)
                  exact xEnd (by kernel_rfl) ⟨rfl, by (repeat (first | exact sub_nil | refine sub_cons rfl ?_)), by (repeat (first | exact subH_nil | refine subH_cons rfl ?_))⟩
          · (refine iE rfl (e_alloc rfl rfl rfl) rfl rfl ?_)
            refine xAll (rs := [5]) (by kernel_rfl) rfl ⟨?_, trivial⟩
            · (refine iC rfl Tryz.func32 rfl rfl ((wideOf_c _ _)) rfl (by repeat (first | exact .refl _ | apply Les.cons | exact .nil)) rfl rfl ?_)
              refine xAll (rs := [8]) (by kernel_rfl) rfl ⟨?_, trivial⟩
              · (refine iE rfl (e_store rfl rfl rfl rfl rfl rfl rfl) rfl rfl ?_)
                refine xAll (rs := [9]) (by kernel_rfl) rfl ⟨?_, trivial⟩
                · (refine iE rfl (e_store rfl rfl rfl rfl rfl rfl rfl) rfl rfl ?_)
                  exact xEnd (by kernel_rfl) ⟨rfl, by (repeat (first | exact sub_nil | refine sub_cons rfl ?_)), by (repeat (first | exact subH_nil | refine subH_cons rfl ?_))⟩
        · (refine iE rfl (e_alloc rfl rfl rfl) rfl rfl ?_)
          refine xAll (rs := [5, 6]) (by kernel_rfl) rfl ⟨?_, ?_, trivial⟩
          · (refine iC rfl Tryz.func32 rfl rfl ((wideOf_c _ _)) rfl (by repeat (first | exact .refl _ | apply Les.cons | exact .nil)) rfl rfl ?_)
            refine xAll (rs := [6]) (by kernel_rfl) rfl ⟨?_, trivial⟩
            · (refine iE rfl (e_alloc rfl rfl rfl) rfl rfl ?_)
              refine xAll (rs := [8]) (by kernel_rfl) rfl ⟨?_, trivial⟩
              · (refine iE rfl (e_store rfl rfl rfl rfl rfl rfl rfl) rfl rfl ?_)
                refine xAll (rs := [9]) (by kernel_rfl) rfl ⟨?_, trivial⟩
                · (refine iE rfl (e_store rfl rfl rfl rfl rfl rfl rfl) rfl rfl ?_)
                  exact xEnd (by kernel_rfl) ⟨rfl, by (repeat (first | exact sub_nil | refine sub_cons rfl ?_)), by (repeat (first | exact subH_nil | refine subH_cons rfl ?_))⟩
          · (refine iE rfl (e_alloc rfl rfl rfl) rfl rfl ?_)
            refine xAll (rs := [5]) (by kernel_rfl) rfl ⟨?_, trivial⟩
            · (refine iC rfl Tryz.func32 rfl rfl ((wideOf_c _ _)) rfl (by repeat (first | exact .refl _ | apply Les.cons | exact .nil)) rfl rfl ?_)
              refine xAll (rs := [8]) (by kernel_rfl) rfl ⟨?_, trivial⟩
              · (refine iE rfl (e_store rfl rfl rfl rfl rfl rfl rfl) rfl rfl ?_)
                refine xAll (rs := [9]) (by kernel_rfl) rfl ⟨?_, trivial⟩
                · (refine iE rfl (e_store rfl rfl rfl rfl rfl rfl rfl) rfl rfl ?_)
                  exact xEnd (by kernel_rfl) ⟨rfl, by (repeat (first | exact sub_nil | refine sub_cons rfl ?_)), by (repeat (first | exact subH_nil | refine subH_cons rfl ?_))⟩
      · (refine iE rfl (e_alloc rfl rfl rfl) rfl rfl ?_)
        refine xAll (rs := [2, 7]) (by kernel_rfl) rfl ⟨?_, ?_, trivial⟩
        · (refine iC rfl Tryz.func32 rfl rfl ((wideOf_c _ _)) rfl (by repeat (first | exact .refl _ | apply Les.cons | exact .nil)) rfl rfl ?_)
          refine xAll (rs := [5, 7]) (by kernel_rfl) rfl ⟨?_, ?_, trivial⟩
          · (refine iC rfl Tryz.func32 rfl rfl ((wideOf_c _ _)) rfl (by repeat (first | exact .refl _ | apply Les.cons | exact .nil)) rfl rfl ?_)
            refine xAll (rs := [7]) (by kernel_rfl) rfl ⟨?_, trivial⟩
            · (refine iE rfl (e_alloc rfl rfl rfl) rfl rfl ?_)
              refine xAll (rs := [8]) (by kernel_rfl) rfl ⟨?_, trivial⟩
              · (refine iE rfl (e_store rfl rfl rfl rfl rfl rfl rfl) rfl rfl ?_)
                refine xAll (rs := [9]) (by kernel_rfl) rfl ⟨?_, trivial⟩
                · (refine iE rfl (e_store rfl rfl rfl rfl rfl rfl rfl) rfl rfl ?_)
                  exact xEnd (by kernel_rfl) ⟨rfl, by (repeat (first | exact sub_nil | refine sub_cons rfl ?_)), by (repeat (first | exact subH_nil | refine subH_cons rfl ?_))⟩
          · (refine iE rfl (e_alloc rfl rfl rfl) rfl rfl ?_)
            refine xAll (rs := [5]) (by kernel_rfl) rfl ⟨?_, trivial⟩
            · (refine iC rfl Tryz.func32 rfl rfl ((wideOf_c _ _)) rfl (by repeat (first | exact .refl _ | apply Les.cons | exact .nil)) rfl rfl ?_)
              refine xAll (rs := [8]) (by kernel_rfl) rfl ⟨?_, trivial⟩
              · (refine iE rfl (e_store rfl rfl rfl rfl rfl rfl rfl) rfl rfl ?_)
                refine xAll (rs := [9]) (by kernel_rfl) rfl ⟨?_, trivial⟩
                · (refine iE rfl (e_store rfl rfl rfl rfl rfl rfl rfl) rfl rfl ?_)
                  exact xEnd (by kernel_rfl) ⟨rfl, by (repeat (first | exact sub_nil | refine sub_cons rfl ?_)), by (repeat (first | exact subH_nil | refine subH_cons rfl ?_))⟩
        · (refine iE rfl (e_alloc rfl rfl rfl) rfl rfl ?_)
          refine xAll (rs := [2]) (by kernel_rfl) rfl ⟨?_, trivial⟩
          · (refine iC rfl Tryz.func32 rfl rfl ((wideOf_c _ _)) rfl (by repeat (first | exact .refl _ | apply Les.cons | exact .nil)) rfl rfl ?_)
            refine xAll (rs := [5]) (by kernel_rfl) rfl ⟨?_, trivial⟩
            · (refine iC rfl Tryz.func32 rfl rfl ((wideOf_c _ _)) rfl (by repeat (first | exact .refl _ | apply Les.cons | exact .nil)) rfl rfl ?_)
              refine xAll (rs := [8]) (by kernel_rfl) rfl ⟨?_, trivial⟩
              · (refine iE rfl (e_store rfl rfl rfl rfl rfl rfl rfl) rfl rfl ?_)
                refine xAll (rs := [9]) (by kernel_rfl) rfl ⟨?_, trivial⟩
                · (refine iE rfl (e_store rfl rfl rfl rfl rfl rfl rfl) rfl rfl ?_)
                  exact xEnd (by kernel_rfl) ⟨rfl, by (repeat (first | exact sub_nil | refine sub_cons rfl ?_)), by (repeat (first | exact subH_nil | refine subH_cons rfl ?_))⟩
      · (refine iE rfl (e_alloc rfl rfl rfl) rfl rfl ?_)
        refine xAll (rs := [2, 6]) (by kernel_rfl) rfl ⟨?_, ?_, trivial⟩
        · (refine iC rfl Tryz.func32 rfl rfl ((wideOf_c _ _)) rfl (by repeat (first | exact .refl _ | apply Les.cons | exact .nil)) rfl rfl ?_)
          refine xAll (rs := [5, 6]) (by kernel_rfl) rfl ⟨?_, ?_, trivial⟩
          · (refine iC rfl Tryz.func32 rfl rfl ((wideOf_c _ _)) rfl (by repeat (first | exact .refl _ | apply Les.cons | exact .nil)) rfl rfl ?_)
            refine xAll (rs := [6]) (by kernel_rfl) rfl ⟨?_, trivial⟩
            · (refine iE rfl (e_alloc rfl rfl rfl) rfl rfl ?_)
              refine xAll (rs := [8]) (by kernel_rfl) rfl ⟨?_, trivial⟩
              · (refine iE rfl (e_store rfl rfl rfl rfl rfl rfl rfl) rfl rfl ?_)
                refine xAll (rs := [9]) (by kernel_rfl) rfl ⟨?_, trivial⟩
                · (refine iE rfl (e_store rfl rfl rfl rfl rfl rfl rfl) rfl rfl ?_)
                  exact xEnd (by kernel_rfl) ⟨rfl, by (repeat (first | exact sub_nil | refine sub_cons rfl ?_)), by (repeat (first | exact subH_nil | refine subH_cons rfl ?_))⟩
          · (refine iE rfl (e_alloc rfl rfl rfl) rfl rfl ?_)
            refine xAll (rs := [5]) (by kernel_rfl) rfl ⟨?_, trivial⟩
            · (refine iC rfl Tryz.func32 rfl rfl ((wideOf_c _ _)) rfl (by repeat (first | exact .refl _ | apply Les.cons | exact .nil)) rfl rfl ?_)
              refine xAll (rs := [8]) (by kernel_rfl) rfl ⟨?_, trivial⟩
              · (refine iE rfl (e_store rfl rfl rfl rfl rfl rfl rfl) rfl rfl ?_)
                refine xAll (rs := [9]) (by kernel_rfl) rfl ⟨?_, trivial⟩
                · (refine iE rfl (e_store rfl rfl rfl rfl rfl rfl rfl) rfl rfl ?_)
                  exact xEnd (by kernel_rfl) ⟨rfl, by (repeat (first | exact sub_nil | refine sub_cons rfl ?_)), by (repeat (first | exact subH_nil | refine subH_cons rfl ?_))⟩
        · (refine iE rfl (e_alloc rfl rfl rfl) rfl rfl ?_)
          refine xAll (rs := [2]) (by kernel_rfl) rfl ⟨?_, trivial⟩
          · (refine iC rfl Tryz.func32 rfl rfl ((wideOf_c _ _)) rfl (by repeat (first | exact .refl _ | apply Les.cons | exact .nil)) rfl rfl ?_)
            refine xAll (rs := [5]) (by kernel_rfl) rfl ⟨?_, trivial⟩
            · (refine iC rfl Tryz.func32 rfl rfl ((wideOf_c _ _)) rfl (by repeat (first | exact .refl _ | apply Les.cons | exact .nil)) rfl rfl ?_)
              refine xAll (rs := [8]) (by kernel_rfl) rfl ⟨?_, trivial⟩
              · (refine iE rfl (e_store rfl rfl rfl rfl rfl rfl rfl) rfl rfl ?_)
                refine xAll (rs := [9]) (by kernel_rfl) rfl ⟨?_, trivial⟩
                · (refine iE rfl (e_store rfl rfl rfl rfl rfl rfl rfl) rfl rfl ?_)
                  exact xEnd (by kernel_rfl) ⟨rfl, by (repeat (first | exact sub_nil | refine sub_cons rfl ?_)), by (repeat (first | exact subH_nil | refine subH_cons rfl ?_))⟩
    repeat (refine seq_ ?_)
    refine draw_ [(0, true), (1, true), (3, true), (5, true), (6, true), (8, true), (12, true), (13, true), (2, false), (4, false), (7, false), (9, false), (10, false), (11, false), (14, false), (15, false), (16, true), (17, true), (18, false), (19, true)] 1000 [2, 3, 6, 7] mixed (by kernel_rfl) rfl ?_
    ((refine dY rfl (y_fieldAddr rfl) rfl rfl rfl rfl ?_); refine dY rfl (y_loadA rfl rfl rfl) rfl rfl rfl rfl ?_; refine dY rfl (y_loadA rfl rfl rfl) rfl rfl rfl rfl ?_; refine dY rfl (y_fieldAddr rfl) rfl rfl rfl rfl ?_; refine dY rfl (y_loadA rfl rfl rfl) rfl rfl rfl rfl ?_; refine dY rfl (y_loadA rfl rfl rfl) rfl rfl rfl rfl ?_; refine dY rfl (y_loadA rfl rfl rfl) rfl rfl rfl rfl ?_; refine dY rfl (y_loadA rfl rfl rfl) rfl rfl rfl rfl ?_)
    refine dC rfl Tryz.func32 rfl rfl (wideOf_c p m) rfl (by repeat (first | exact .refl _ | apply Les.cons | exact .nil)) rfl rfl ?_
    skip
    refine dC rfl Tryz.func34 rfl rfl (ht1) rfl (by repeat (first | exact .refl _ | apply Les.cons | exact .nil)) rfl rfl ?_
    skip
    refine dC rfl Tryz.func32 rfl rfl (wideOf_c p' m') rfl (by repeat (first | exact .refl _ | apply Les.cons | exact .nil)) rfl rfl ?_
    skip
    refine dC rfl Tryz.func34 rfl rfl (ht2) rfl (by repeat (first | exact .refl _ | apply Les.cons | exact .nil)) rfl rfl ?_
    skip
    refine dC rfl Tryz.func36 rfl rfl (hmi) rfl (by repeat (first | exact .refl _ | apply Les.cons | exact .nil)) rfl rfl ?_
    skip
    refine dC rfl Tryz.func35 rfl rfl (hp) rfl (by repeat (first | exact .refl _ | apply Les.cons | exact .nil)) rfl rfl ?_
    skip
    refine dC rfl Tryz.func34 rfl rfl (ht3) rfl (by repeat (first | exact .refl _ | apply Les.cons | exact .nil)) rfl rfl ?_
    skip
    refine dC rfl Tryz.func31 rfl rfl (hr) rfl (by repeat (first | exact .refl _ | apply Les.cons | exact .nil)) rfl rfl ?_
    ((refine dY rfl (y_extract rfl rfl) rfl rfl rfl rfl ?_); refine dY rfl (y_extract rfl rfl) rfl rfl rfl rfl ?_; (refine dE rfl (e_store rfl rfl rfl rfl rfl rfl rfl) rfl rfl ?_); refine dY rfl (y_assign rfl) rfl rfl rfl rfl ?_; refine dEnd ?_)
    repeat (refine ret_ ?_)
    ((apply fin_r); (repeat (first | exact .nil | exact .tmp rfl | exact .agg rfl rfl rfl | apply ResL.cons)); (repeat (exact .refl _)))
  · rw [resQ_no hok] at *
    refine con_of Tryz.func11 rfl rfl rfl rfl rfl ?_
    repeat (first | refine seq_ ?_ | refine region_ ?_ | refine nil_ ?_ | refine stepY (y_assign rfl) rfl ?_ | refine stepY (y_loadA rfl rfl rfl) rfl ?_ | refine stepE (e_box rfl rfl rfl rfl rfl rfl) ?_ | refine stepE (e_alloc rfl rfl rfl) ?_ | refine stepE (e_bs_vs rfl rfl rfl rfl rfl rfl) ?_)
    refine seal_Ls (i := 10) (h := 10) rfl rfl rfl rfl ?_
    refine call_ Tryz.func33 rfl rfl (hv) rfl (by repeat (first | exact .tags _ _ | apply Les.cons | exact .nil)) rfl ?_
    repeat (first | refine seq_ ?_ | refine nil_ ?_ | refine skip_ ?_ | refine cond_f rfl ?_ | refine stepY (y_not rfl) rfl ?_)
    refine cut_ [(2, .ptr 2 0), (3, .ptr 3 0), (4, .ptr 4 0), (5, .p (E_ 0)), (6, .ptr 6 0), (7, .ptr 7 0)] [(2, .bx [Bo p, M m, Bo false, M d]), (3, .bx [Bo p', M m', Bo false, M d']), (4, .bx [Bo false, .v (.slice none 0 0), Bo false, .v (.slice none 0 0)]), (6, .bx [Bo false, M d]), (7, .bx [Bo false, M d'])] ?_ ?_
    · refine xDraw 1000 [2, 3] mixed ?_
      refine xY (i := 0) (op := .fieldAddr _ _ _) rfl (by (exact y_fieldAddr rfl)) rfl rfl rfl rfl (by kernel_rfl) ?_
      refine xY (i := 1) (op := .load _ _) rfl (by (exact y_loadA rfl rfl rfl)) rfl rfl rfl rfl (by kernel_rfl) ?_
      refine xY (i := 3) (op := .fieldAddr _ _ _) rfl (by (exact y_fieldAddr rfl)) rfl rfl rfl rfl (by kernel_rfl) ?_
      refine xY (i := 4) (op := .load _ _) rfl (by (exact y_loadA rfl rfl rfl)) rfl rfl rfl rfl (by kernel_rfl) ?_
      refine xAll (rs := [2, 6, 7]) (by kernel_rfl) rfl ⟨?_, ?_, ?_, trivial⟩
      · (refine iC rfl Tryz.func32 rfl rfl ((wideOf_c _ _)) rfl (by repeat (first | exact .refl _ | apply Les.cons | exact .nil)) rfl rfl ?_)
        refine xAll (rs := [5, 6, 7]) (by kernel_rfl) rfl ⟨?_, ?_, ?_, trivial⟩
        · (refine iC rfl Tryz.func32 rfl rfl ((wideOf_c _ _)) rfl (by repeat (first | exact .refl _ | apply Les.cons | exact .nil)) rfl rfl ?_)
          refine xAll (rs := [6, 7]) (by kernel_rfl) rfl ⟨?_, ?_, trivial⟩
          · (refine iE rfl (e_alloc rfl rfl rfl) rfl rfl ?_)
            refine xAll (rs := [7]) (by kernel_rfl) rfl ⟨?_, trivial⟩
            · (refine iE rfl (e_alloc rfl rfl rfl) rfl rfl ?_)
              refine xAll (rs := [8]) (by kernel_rfl) rfl ⟨?_, trivial⟩
              · (refine iE rfl (e_store rfl rfl rfl rfl rfl rfl rfl) rfl rfl ?_)
                refine xAll (rs := [9]) (by kernel_rfl) rfl ⟨?_, trivial⟩
                · (refine iE rfl (e_store rfl rfl rfl rfl rfl rfl rfl) rfl rfl ?_)
                  exact xEnd (by kernel_rfl) ⟨rfl, by (repeat (first | exact sub_nil | refine sub_cons rfl ?_)), by (repeat (first | exact subH_nil | refine subH_cons rfl ?_))⟩
          · (refine iE rfl (e_alloc rfl rfl rfl) rfl rfl ?_)
            refine xAll (rs := [6]) (by kernel_rfl) rfl ⟨?_, trivial⟩
            · (refine iE rfl (e_alloc rfl rfl rfl) rfl rfl ?_)
              refine xAll (rs := [8]) (by kernel_rfl) rfl ⟨?_, trivial⟩
              · (refine iE rfl (e_store rfl rfl rfl rfl rfl rfl rfl) rfl rfl ?_)
                refine xAll (rs := [9]) (by kernel_rfl) rfl ⟨?_, trivial⟩
                · (refine iE rfl (e_store rfl rfl rfl rfl rfl rfl rfl) rfl rfl ?_)
                  exact xEnd (by kernel_rfl) ⟨rfl, by (repeat (first | exact sub_nil | refine sub_cons rfl ?_)), by (repeat (first | exact subH_nil | refine subH_cons rfl ?_))⟩
        · (refine iE rfl (e_alloc rfl rfl rfl) rfl rfl ?_)
          refine xAll (rs := [5, 7]) (by kernel_rfl) rfl ⟨?_, ?_, trivial⟩
          · (refine iC rfl Tryz.func32 rfl rfl ((wideOf_c _ _)) rfl (by repeat (first | exact .refl _ | apply Les.cons | exact .nil)) rfl rfl ?_)
            refine xAll (rs := [7]) (by kernel_rfl) rfl ⟨?_, trivial⟩
            · (refine iE rfl (e_alloc rfl rfl rfl) rfl rfl ?_)
              refine xAll (rs := [8]) (by kernel_rfl) rfl ⟨?_, trivial⟩
              · (refine iE rfl (e_store rfl rfl rfl rfl rfl rfl rfl) rfl rfl ?_)
                refine xAll (rs := [9]) (by kernel_rfl) rfl ⟨?_, trivial⟩
                · (refine iE rfl (e_store rfl rfl rfl rfl rfl rfl rfl) rfl rfl ?_)
                  exact xEnd (by kernel_rfl) ⟨rfl, by (repeat (first | exact sub_nil | refine sub_cons rfl ?_)), by (repeat (first | exact subH_nil | refine subH_cons rfl ?_))⟩
          · (refine iE rfl (e_alloc rfl rfl rfl) rfl rfl ?_)
            refine xAll (rs := [5]) (by kernel_rfl) rfl ⟨?_, trivial⟩
            · (refine iC rfl Tryz.func32 rfl rfl ((wideOf_c _ _)) rfl (by repeat (first | exact .refl _ | apply Les.cons | exact .nil)) rfl rfl ?_)
              refine xAll (rs := [8]) (by kernel_rfl) rfl ⟨?_, trivial⟩
              · (refine iE rfl (e_store rfl rfl rfl rfl rfl rfl rfl) rfl rfl ?_)
                refine xAll (rs := [9]) (by kernel_rfl) rfl ⟨?_, trivial⟩
                · (refine iE rfl (e_store rfl rfl rfl rfl rfl rfl rfl) rfl rfl ?_)
                  exact xEnd (by kernel_rfl) ⟨rfl, by (repeat (first | exact sub_nil | refine sub_cons rfl ?_)), by (repeat (first | exact subH_nil | refine subH_cons rfl ?_))⟩
        · (refine iE rfl (e_alloc rfl rfl rfl) rfl rfl ?_)
          refine xAll (rs := [5, 6]) (by kernel_rfl) rfl ⟨?_, ?_, trivial⟩
          · (refine iC rfl Tryz.func32 rfl rfl ((wideOf_c _ _)) rfl (by repeat (first | exact .refl _ | apply Les.cons | exact .nil)) rfl rfl ?_)
            refine xAll (rs := [6]) (by kernel_rfl) rfl ⟨?_, trivial⟩
            · (refine iE rfl (e_alloc rfl rfl rfl) rfl rfl ?_)
              refine xAll (rs := [8]) (by kernel_rfl) rfl ⟨?_, trivial⟩
              · (refine iE rfl (e_store rfl rfl rfl rfl rfl rfl rfl) rfl rfl ?_)
                refine xAll (rs := [9]) (by kernel_rfl) rfl ⟨?_, trivial⟩
                · (refine iE rfl (e_store rfl rfl rfl rfl rfl rfl rfl) rfl rfl ?_)
                  exact xEnd (by kernel_rfl) ⟨rfl, by (repeat (first | exact sub_nil | refine sub_cons rfl ?_)), by (repeat (first | exact subH_nil | refine subH_cons rfl ?_))⟩
          · (refine iE rfl (e_alloc rfl rfl rfl) rfl rfl ?_)
            refine xAll (rs := [5]) (by kernel_rfl) rfl ⟨?_, trivial⟩
            · (refine iC rfl Tryz.func32 rfl rfl ((wideOf_c _ _)) rfl (by repeat (first | exact .refl _ | apply Les.cons | exact .nil)) rfl rfl ?_)
              refine xAll (rs := [8]) (by kernel_rfl) rfl ⟨?_, trivial⟩
              · (refine iE rfl (e_store rfl rfl rfl rfl rfl rfl rfl) rfl rfl ?_)
                refine xAll (rs := [9]) (by kernel_rfl) rfl ⟨?_, trivial⟩
                · (refine iE rfl (e_store rfl rfl rfl rfl rfl rfl rfl) rfl rfl ?_)
                  exact xEnd (by kernel_rfl) ⟨rfl, by (repeat (first | exact sub_nil | refine sub_cons rfl ?_)), by (repeat (first | exact subH_nil | refine subH_cons rfl ?_))⟩
      · (refine iE rfl (e_alloc rfl rfl rfl) rfl rfl ?_)
        refine xAll (rs := [2, 7]) (by kernel_rfl) rfl ⟨?_, ?_, trivial⟩
        · (refine iC rfl Tryz.func32 rfl rfl ((wideOf_c _ _)) rfl (by repeat (first | exact .refl _ | apply Les.cons | exact .nil)) rfl rfl ?_)
          refine xAll (rs := [5, 7]) (by kernel_rfl) rfl ⟨?_, ?_, trivial⟩
          · (refine iC rfl Tryz.func32 rfl rfl ((wideOf_c _ _)) rfl (by repeat (first | exact .refl _ | apply Les.cons | exact .nil)) rfl rfl ?_)
            refine xAll (rs := [7]) (by kernel_rfl) rfl ⟨?_, trivial⟩
            · (refine iE rfl (e_alloc rfl rfl rfl) rfl rfl ?_)
              refine xAll (rs := [8]) (by kernel_rfl) rfl ⟨?_, trivial⟩
              · (refine iE rfl (e_store rfl rfl rfl rfl rfl rfl rfl) rfl rfl ?_)
                refine xAll (rs := [9]) (by kernel_rfl) rfl ⟨?_, trivial⟩
                · (refine iE rfl (e_store rfl rfl rfl rfl rfl rfl rfl) rfl rfl ?_)
                  exact xEnd (by kernel_rfl) ⟨rfl, by (repeat (first | exact sub_nil | refine sub_cons rfl ?_)), by (repeat (first | exact subH_nil | refine subH_cons rfl ?_))⟩
          · (refine iE rfl (e_alloc rfl rfl rfl) rfl rfl ?_)
            refine xAll (rs := [5]) (by kernel_rfl) rfl ⟨?_, trivial⟩
            · (refine iC rfl Tryz.func32 rfl rfl ((wideOf_c _ _)) rfl (by repeat (first | exact .refl _ | apply Les.cons | exact .nil)) rfl rfl ?_)
              refine xAll (rs := [8]) (by kernel_rfl) rfl ⟨?_, trivial⟩
              · (refine iE rfl (e_store rfl rfl rfl rfl rfl rfl rfl) rfl rfl ?_)
                refine xAll (rs := [9]) (by kernel_rfl) rfl ⟨?_, trivial⟩
                · (refine iE rfl (e_store rfl rfl rfl rfl rfl rfl rfl) rfl rfl ?_)
                  exact xEnd (by kernel_rfl) ⟨rfl, by (repeat (first | exact sub_nil | refine sub_cons rfl ?_)), by (repeat (first | exact subH_nil | refine subH_cons rfl ?_))⟩
        · (refine iE rfl (e_alloc rfl rfl rfl) rfl rfl ?_)
          refine xAll (rs := [2]) (by kernel_rfl) rfl ⟨?_, trivial⟩
          · (refine iC rfl Tryz.func32 rfl rfl ((wideOf_c _ _)) rfl (by repeat (first | exact .refl _ | apply Les.cons | exact .nil)) rfl rfl ?_)
            refine xAll (rs := [5]) (by kernel_rfl) rfl ⟨?_, trivial⟩
            · (refine iC rfl Tryz.func32 rfl rfl ((wideOf_c _ _)) rfl (by repeat (first | exact .refl _ | apply Les.cons | exact .nil)) rfl rfl ?_)
              refine xAll (rs := [8]) (by kernel_rfl) rfl ⟨?_, trivial⟩
              · (refine iE rfl (e_store rfl rfl rfl rfl rfl rfl rfl) rfl rfl ?_)
                refine xAll (rs := [9]) (by kernel_rfl) rfl ⟨?_, trivial⟩
                · (refine iE rfl (e_store rfl rfl rfl rfl rfl rfl rfl) rfl rfl ?_)
                  exact xEnd (by kernel_rfl) ⟨rfl, by (repeat (first | exact sub_nil | refine sub_cons rfl ?_)), by (repeat (first | exact subH_nil | refine subH_cons rfl ?_))⟩
      · (refine iE rfl (e_alloc rfl rfl rfl) rfl rfl ?_)
        refine xAll (rs := [2, 6]) (by kernel_rfl) rfl ⟨?_, ?_, trivial⟩
        · (refine iC rfl Tryz.func32 rfl rfl ((wideOf_c _ _)) rfl (by repeat (first | exact .refl _ | apply Les.cons | exact .nil)) rfl rfl ?_)
          refine xAll (rs := [5, 6]) (by kernel_rfl) rfl ⟨?_, ?_, trivial⟩
          · (refine iC rfl Tryz.func32 rfl rfl ((wideOf_c _ _)) rfl (by repeat (first | exact .refl _ | apply Les.cons | exact .nil)) rfl rfl ?_)
            refine xAll (rs := [6]) (by kernel_rfl) rfl ⟨?_, trivial⟩
            · (refine iE rfl (e_alloc rfl rfl rfl) rfl rfl ?_)
              refine xAll (rs := [8]) (by kernel_rfl) rfl ⟨?_, trivial⟩
              · (refine iE rfl (e_store rfl rfl rfl rfl rfl rfl rfl) rfl rfl ?_)
                refine xAll (rs := [9]) (by kernel_rfl) rfl ⟨?_, trivial⟩
                · (refine iE rfl (e_store rfl rfl rfl rfl rfl rfl rfl) rfl rfl ?_)
                  exact xEnd (by kernel_rfl) ⟨rfl, by (repeat (first | exact sub_nil | refine sub_cons rfl ?_)), by (repeat (first | exact subH_nil | refine subH_cons rfl ?_))⟩
          · (refine iE rfl (e_alloc rfl rfl rfl) rfl rfl ?_)
            refine xAll (rs := [5]) (by kernel_rfl) rfl ⟨?_, trivial⟩
            · (refine iC rfl Tryz.func32 rfl rfl ((wideOf_c _ _)) rfl (by repeat (first | exact .refl _ | apply Les.cons | exact .nil)) rfl rfl ?_)
              refine xAll (rs := [8]) (by kernel_rfl) rfl ⟨?_, trivial⟩
              · (refine iE rfl (e_store rfl rfl rfl rfl rfl rfl rfl) rfl rfl ?_)
                refine xAll (rs := [9]) (by kernel_rfl) rfl ⟨?_, trivial⟩
                · (refine iE rfl (e_store rfl rfl rfl rfl rfl rfl rfl) rfl rfl ?_)
                  exact xEnd (by kernel_rfl) ⟨rfl, by (repeat (first | exact sub_nil | refine sub_cons rfl ?_)), by (repeat (first | exact subH_nil | refine subH_cons rfl ?_))⟩
        · (refine iE rfl (e_alloc rfl rfl rfl) rfl rfl ?_)
          refine xAll (rs := [2]) (by kernel_rfl) rfl ⟨?_, trivial⟩
          · (refine iC rfl Tryz.func32 rfl rfl ((wideOf_c _ _)) rfl (by repeat (first | exact .refl _ | apply Les.cons | exact .nil)) rfl rfl ?_)
            refine xAll (rs := [5]) (by kernel_rfl) rfl ⟨?_, trivial⟩
            · (refine iC rfl Tryz.func32 rfl rfl ((wideOf_c _ _)) rfl (by repeat (first | exact .refl _ | apply Les.cons | exact .nil)) rfl rfl ?_)
              refine xAll (rs := [8]) (by kernel_rfl) rfl ⟨?_, trivial⟩
              · (refine iE rfl (e_store rfl rfl rfl rfl rfl rfl rfl) rfl rfl ?_)
                refine xAll (rs := [9]) (by kernel_rfl) rfl ⟨?_, trivial⟩
                · (refine iE rfl (e_store rfl rfl rfl rfl rfl rfl rfl) rfl rfl ?_)
                  exact xEnd (by kernel_rfl) ⟨rfl, by (repeat (first | exact sub_nil | refine sub_cons rfl ?_)), by (repeat (first | exact subH_nil | refine subH_cons rfl ?_))⟩
    repeat (refine seq_ ?_)
    refine draw_ [(0, true), (1, true), (3, true), (5, true), (6, true), (8, true), (12, true), (13, true), (2, false), (4, false), (7, false), (9, false), (10, false), (11, false), (14, false), (15, false), (16, true), (17, true), (18, false), (19, true)] 1000 [2, 3, 6, 7] mixed (by kernel_rfl) rfl ?_
    ((refine dY rfl (y_fieldAddr rfl) rfl rfl rfl rfl ?_); refine dY rfl (y_loadA rfl rfl rfl) rfl rfl rfl rfl ?_; refine dY rfl (y_loadA rfl rfl rfl) rfl rfl rfl rfl ?_; refine dY rfl (y_fieldAddr rfl) rfl rfl rfl rfl ?_; refine dY rfl (y_loadA rfl rfl rfl) rfl rfl rfl rfl ?_; refine dY rfl (y_loadA rfl rfl rfl) rfl rfl rfl rfl ?_; refine dY rfl (y_loadA rfl rfl rfl) rfl rfl rfl rfl ?_; refine dY rfl (y_loadA rfl rfl rfl) rfl rfl rfl rfl ?_)
    refine dC rfl Tryz.func32 rfl rfl (wideOf_c p m) rfl (by repeat (first | exact .refl _ | apply Les.cons | exact .nil)) rfl rfl ?_
    skip
    refine dC rfl Tryz.func34 rfl rfl (ht1) rfl (by repeat (first | exact .refl _ | apply Les.cons | exact .nil)) rfl rfl ?_
    skip
    refine dC rfl Tryz.func32 rfl rfl (wideOf_c p' m') rfl (by repeat (first | exact .refl _ | apply Les.cons | exact .nil)) rfl rfl ?_
    skip
    refine dC rfl Tryz.func34 rfl rfl (ht2) rfl (by repeat (first | exact .refl _ | apply Les.cons | exact .nil)) rfl rfl ?_
    skip
    refine dC rfl Tryz.func36 rfl rfl (hmi) rfl (by repeat (first | exact .refl _ | apply Les.cons | exact .nil)) rfl rfl ?_
    skip
    refine dC rfl Tryz.func35 rfl rfl (hp) rfl (by repeat (first | exact .refl _ | apply Les.cons | exact .nil)) rfl rfl ?_
    skip
    refine dC rfl Tryz.func34 rfl rfl (ht3) rfl (by repeat (first | exact .refl _ | apply Les.cons | exact .nil)) rfl rfl ?_
    skip
    refine dC rfl Tryz.func31 rfl rfl (hr) rfl (by repeat (first | exact .refl _ | apply Les.cons | exact .nil)) rfl rfl ?_
    ((refine dY rfl (y_extract rfl rfl) rfl rfl rfl rfl ?_); refine dY rfl (y_extract rfl rfl) rfl rfl rfl rfl ?_; (refine dE rfl (e_store rfl rfl rfl rfl rfl rfl rfl) rfl rfl ?_); refine dY rfl (y_assign rfl) rfl rfl rfl rfl ?_; refine dEnd ?_)
    repeat (refine ret_ ?_)
    ((apply fin_r); (repeat (first | exact .nil | exact .tmp rfl | exact .agg rfl rfl rfl | apply ResL.cons)); (repeat (exact .refl _)))
def isg (z : Int) : Int := if z < 0 then -1 else if 0 < z then 1 else 0
/-- the order of two fractions -/
def qcmp (x y : Rat) : Int := if x < y then -1 else if y < x then 1 else 0
theorem qcmp_isg (x y : Rat) : isg (x.num * y.den - y.num * x.den) = qcmp x y := by
  have h1 := Rat.lt_iff x y
  have h2 := Rat.lt_iff y x
  unfold isg qcmp
  by_cases a : x < y
  · have := h1.1 a
    rw [if_pos a, if_pos (by omega)]
  · have := fun h => a (h1.2 h)
    rw [if_neg a, if_neg (fun h => this (by omega))]
    by_cases b : y < x
    · have := h2.1 b
      rw [if_pos b, if_pos (by omega)]
    · have := fun h => b (h2.2 h)
      rw [if_neg b, if_neg (fun h => this (by omega))]
theorem compare_g (p p' : Bool) (m m' d d' : Nat) (h : vG p m d) (h' : vG p' m' d') : Con Tryz.prog 37 [GF p m d, GF p' m' d'] (I (isg (sgn p m * d' - sgn p' m' * d))) := by
  have hv := valid2_t h h'
  obtain ⟨b1, b2, b3, b4, b5, b6⟩ := vG_bd h
  obtain ⟨c1, c2, c3, c4, c5, c6⟩ := vG_bd h'
  have ht1 := wtimes_c p false m d' (by omega) (by omega)
  have ht2 := wtimes_c p' false m' d (by omega) (by omega)
  rw [Bool.bne_false] at ht1 ht2
  have hmi := wminus_c p' (m' * d)
  have e1 := ln_mul b1 c2
  have e2 := ln_mul c1 b2
  have hp := wplus_c p (!p') (m * d') (m' * d) (by omega) (by omega)
  have hz := addA_val p (!p') (m * d') (m' * d)
  rw [sgn_mulr, sgn_not, sgn_mulr, ← Int.sub_eq_add_neg] at hz
  rw [← hz]
  generalize addN p (!p') (m * d') (m' * d) = N at *
  generalize addA p (!p') (m * d') (m' * d) = A at *
  have hlA : ((limbs A).length : Int) = ln A := by rw [limbs_length]
  refine con_of Tryz.func37 rfl rfl rfl rfl rfl ?_
  repeat (first | refine seq_ ?_ | refine region_ ?_ | refine nil_ ?_ | refine stepY (y_assign rfl) rfl ?_ | refine stepE (e_box rfl rfl rfl rfl rfl rfl) ?_)
  refine cut_ [(4, .p (I 0)), (5, .ptr 5 0)] [(5, .bx [Bo N, M A])] ?_ ?_
  · refine xDraw 1000 [2, 3] mixed ?_
    refine xY (i := 0) (op := .fieldAddr _ _ _) rfl (by (exact y_fieldAddr rfl)) rfl rfl rfl rfl (by kernel_rfl) ?_
    refine xY (i := 1) (op := .load _ _) rfl (by (exact y_loadA rfl rfl rfl)) rfl rfl rfl rfl (by kernel_rfl) ?_
    refine xY (i := 3) (op := .fieldAddr _ _ _) rfl (by (exact y_fieldAddr rfl)) rfl rfl rfl rfl (by kernel_rfl) ?_
    refine xY (i := 4) (op := .load _ _) rfl (by (exact y_loadA rfl rfl rfl)) rfl rfl rfl rfl (by kernel_rfl) ?_
    refine xY (i := 7) (op := .fieldAddr _ _ _) rfl (by (exact y_fieldAddr rfl)) rfl rfl rfl rfl (by kernel_rfl) ?_
    refine xY (i := 8) (op := .load _ _) rfl (by (exact y_loadA rfl rfl rfl)) rfl rfl rfl rfl (by kernel_rfl) ?_
    refine xY (i := 10) (op := .fieldAddr _ _ _) rfl (by (exact y_fieldAddr rfl)) rfl rfl rfl rfl (by kernel_rfl) ?_
    refine xY (i := 11) (op := .load _ _) rfl (by (exact y_loadA rfl rfl rfl)) rfl rfl rfl rfl (by kernel_rfl) ?_
    refine xAll (rs := [2, 16]) (by kernel_rfl) rfl ⟨?_, ?_, trivial⟩
    · (refine iC rfl Tryz.func32 rfl rfl (wideOf_c _ _) rfl (by repeat (first | exact .refl _ | apply Les.cons | exact .nil)) rfl rfl ?_)
      refine xAll (rs := [5, 16]) (by kernel_rfl) rfl ⟨?_, ?_, trivial⟩
      · (refine iC rfl Tryz.func32 rfl rfl (wideOf_c _ _) rfl (by repeat (first | exact .refl _ | apply Les.cons | exact .nil)) rfl rfl ?_)
        refine xAll (rs := [6, 16]) (by kernel_rfl) rfl ⟨?_, ?_, trivial⟩
        · (refine iC rfl Tryz.func34 rfl rfl (ht1) rfl ?_ rfl rfl ?_; (focus ((repeat (first | exact .refl _ | apply Les.cons | exact .nil)); done)))
          refine xAll (rs := [9, 16]) (by kernel_rfl) rfl ⟨?_, ?_, trivial⟩
          · (refine iC rfl Tryz.func32 rfl rfl (wideOf_c _ _) rfl (by repeat (first | exact .refl _ | apply Les.cons | exact .nil)) rfl rfl ?_)
            refine xAll (rs := [12, 16]) (by kernel_rfl) rfl ⟨?_, ?_, trivial⟩
            · (refine iC rfl Tryz.func32 rfl rfl (wideOf_c _ _) rfl (by repeat (first | exact .refl _ | apply Les.cons | exact .nil)) rfl rfl ?_)
              refine xAll (rs := [13, 16]) (by kernel_rfl) rfl ⟨?_, ?_, trivial⟩
              · (refine iC rfl Tryz.func34 rfl rfl (ht2) rfl ?_ rfl rfl ?_; (focus ((repeat (first | exact .refl _ | apply Les.cons | exact .nil)); done)))
                refine xAll (rs := [14, 16]) (by kernel_rfl) rfl ⟨?_, ?_, trivial⟩
                · (refine iC rfl Tryz.func36 rfl rfl (hmi) rfl (by repeat (first | exact .refl _ | apply Les.cons | exact .nil)) rfl rfl ?_)
                  refine xAll (rs := [15, 16]) (by kernel_rfl) rfl ⟨?_, ?_, trivial⟩
                  · (refine iC rfl Tryz.func35 rfl rfl (hp) rfl (by repeat (first | exact .refl _ | apply Les.cons | exact .nil)) rfl rfl ?_)
                    refine xAll (rs := [16]) (by kernel_rfl) rfl ⟨?_, trivial⟩
                    · (refine iE rfl (e_alloc rfl rfl rfl) rfl rfl ?_)
                      refine xAll (rs := [17]) (by kernel_rfl) rfl ⟨?_, trivial⟩
                      · (refine iE rfl (e_store rfl rfl rfl rfl rfl rfl rfl) rfl rfl ?_)
                        exact xEnd (by kernel_rfl) ⟨rfl, by (repeat (first | exact sub_nil | refine sub_cons rfl ?_)), by (repeat (first | exact subH_nil | refine subH_cons rfl ?_))⟩
                  · (refine iE rfl (e_alloc rfl rfl rfl) rfl rfl ?_)
                    refine xAll (rs := [15]) (by kernel_rfl) rfl ⟨?_, trivial⟩
                    · (refine iC rfl Tryz.func35 rfl rfl (hp) rfl (by repeat (first | exact .refl _ | apply Les.cons | exact .nil)) rfl rfl ?_)
                      refine xAll (rs := [17]) (by kernel_rfl) rfl ⟨?_, trivial⟩
                      · (refine iE rfl (e_store rfl rfl rfl rfl rfl rfl rfl) rfl rfl ?_)
                        exact xEnd (by kernel_rfl) ⟨rfl, by (repeat (first | exact sub_nil | refine sub_cons rfl ?_)), by (repeat (first | exact subH_nil | refine subH_cons rfl ?_))⟩
                · (refine iE rfl (e_alloc rfl rfl rfl) rfl rfl ?_)
                  refine xAll (rs := [14]) (by kernel_rfl) rfl ⟨?_, trivial⟩
                  · (refine iC rfl Tryz.func36 rfl rfl (hmi) rfl (by repeat (first | exact .refl _ | apply Les.cons | exact .nil)) rfl rfl ?_)
                    refine xAll (rs := [15]) (by kernel_rfl) rfl ⟨?_, trivial⟩
                    · (refine iC rfl Tryz.func35 rfl rfl (hp) rfl (by repeat (first | exact .refl _ | apply Les.cons | exact .nil)) rfl rfl ?_)
                      refine xAll (rs := [17]) (by kernel_rfl) rfl ⟨?_, trivial⟩
                      · (refine iE rfl (e_store rfl rfl rfl rfl rfl rfl rfl) rfl rfl ?_)
                        exact xEnd (by kernel_rfl) ⟨rfl, by (repeat (first | exact sub_nil | refine sub_cons rfl ?_)), by (repeat (first | exact subH_nil | refine subH_cons rfl ?_))⟩
              · (refine iE rfl (e_alloc rfl rfl rfl) rfl rfl ?_)
                refine xAll (rs := [13]) (by kernel_rfl) rfl ⟨?_, trivial⟩
                · (refine iC rfl Tryz.func34 rfl rfl (ht2) rfl ?_ rfl rfl ?_; (focus ((repeat (first | exact .refl _ | apply Les.cons | exact .nil)); done)))
                  refine xAll (rs := [14]) (by kernel_rfl) rfl ⟨?_, trivial⟩
                  · (refine iC rfl Tryz.func36 rfl rfl (hmi) rfl (by repeat (first | exact .refl _ | apply Les.cons | exact .nil)) rfl rfl ?_)
                    refine xAll (rs := [15]) (by kernel_rfl) rfl ⟨?_, trivial⟩
                    · (refine iC rfl Tryz.func35 rfl rfl (hp) rfl (by repeat (first | exact .refl _ | apply Les.cons | exact .nil)) rfl rfl ?_)
                      refine xAll (rs := [17]) (by kernel_rfl) rfl ⟨?_, trivial⟩
                      · (refine iE rfl (e_store rfl rfl rfl rfl rfl rfl rfl) rfl rfl ?_)
                        exact xEnd (by kernel_rfl) ⟨rfl, by (repeat (first | exact sub_nil | refine sub_cons rfl ?_)), by (repeat (first | exact subH_nil | refine subH_cons rfl ?_))⟩
            · (refine iE rfl (e_alloc rfl rfl rfl) rfl rfl ?_)
              refine xAll (rs := [12]) (by kernel_rfl) rfl ⟨?_, trivial⟩
              · (refine iC rfl Tryz.func32 rfl rfl (wideOf_c _ _) rfl (by repeat (first | exact .refl _ | apply Les.cons | exact .nil)) rfl rfl ?_)
                refine xAll (rs := [13]) (by kernel_rfl) rfl ⟨?_, trivial⟩
                · (refine iC rfl Tryz.func34 rfl rfl (ht2) rfl ?_ rfl rfl ?_; (focus ((repeat (first | exact .refl _ | apply Les.cons | exact .nil)); done)))
                  refine xAll (rs := [14]) (by kernel_rfl) rfl ⟨?_, trivial⟩
                  · (refine iC rfl Tryz.func36 rfl rfl (hmi) rfl (by repeat (first | exact .refl _ | apply Les.cons | exact .nil)) rfl rfl ?_)
                    refine xAll (rs := [15]) (by kernel_rfl) rfl ⟨?_, trivial⟩
                    · (refine iC rfl Tryz.func35 rfl rfl (hp) rfl (by repeat (first | exact .refl _ | apply Les.cons | exact .nil)) rfl rfl ?_)
                      refine xAll (rs := [17]) (by kernel_rfl) rfl ⟨?_, trivial⟩
                      · (refine iE rfl (e_store rfl rfl rfl rfl rfl rfl rfl) rfl rfl ?_)
                        exact xEnd (by kernel_rfl) ⟨rfl, by (repeat (first | exact sub_nil | refine sub_cons rfl ?_)), by (repeat (first | exact subH_nil | refine subH_cons rfl ?_))⟩
          · (refine iE rfl (e_alloc rfl rfl rfl) rfl rfl ?_)
            refine xAll (rs := [9]) (by kernel_rfl) rfl ⟨?_, trivial⟩
            · (refine iC rfl Tryz.func32 rfl rfl (wideOf_c _ _) rfl (by repeat (first | exact .refl _ | apply Les.cons | exact .nil)) rfl rfl ?_)
              refine xAll (rs := [12]) (by kernel_rfl) rfl ⟨?_, trivial⟩
              · (refine iC rfl Tryz.func32 rfl rfl (wideOf_c _ _) rfl (by repeat (first | exact .refl _ | apply Les.cons | exact .nil)) rfl rfl ?_)
                refine xAll (rs := [13]) (by kernel_rfl) rfl ⟨?_, trivial⟩
                · (refine iC rfl Tryz.func34 rfl rfl (ht2) rfl ?_ rfl rfl ?_; (focus ((repeat (first | exact .refl _ | apply Les.cons | exact .nil)); done)))
                  refine xAll (rs := [14]) (by kernel_rfl) rfl ⟨?_, trivial⟩
                  · (refine iC rfl Tryz.func36 rfl rfl (hmi) rfl (by repeat (first | exact .refl _ | apply Les.cons | exact .nil)) rfl rfl ?_)
                    refine xAll (rs := [15]) (by kernel_rfl) rfl ⟨?_, trivial⟩
                    · (refine iC rfl Tryz.func35 rfl rfl (hp) rfl (by repeat (first | exact .refl _ | apply Les.cons | exact .nil)) rfl rfl ?_)
                      refine xAll (rs := [17]) (by kernel_rfl) rfl ⟨?_, trivial⟩
                      · (refine iE rfl (e_store rfl rfl rfl rfl rfl rfl rfl) rfl rfl ?_)
                        exact xEnd (by kernel_rfl) ⟨rfl, by (repeat (first | exact sub_nil | refine sub_cons rfl ?_)), by (repeat (first | exact subH_nil | refine subH_cons rfl ?_))⟩
        · (refine iE rfl (e_alloc rfl rfl rfl) rfl rfl ?_)
          refine xAll (rs := [6]) (by kernel_rfl) rfl ⟨?_, trivial⟩
          · (refine iC rfl Tryz.func34 rfl rfl (ht1) rfl ?_ rfl rfl ?_; (focus ((repeat (first | exact .refl _ | apply Les.cons | exact .nil)); done)))
            refine xAll (rs := [9]) (by kernel_rfl) rfl ⟨?_, trivial⟩
            · (refine iC rfl Tryz.func32 rfl rfl (wideOf_c _ _) rfl (by repeat (first | exact .refl _ | apply Les.cons | exact .nil)) rfl rfl ?_)
              refine xAll (rs := [12]) (by kernel_rfl) rfl ⟨?_, trivial⟩
              · (refine iC rfl Tryz.func32 rfl rfl (wideOf_c _ _) rfl (by repeat (first | exact .refl _ | apply Les.cons | exact .nil)) rfl rfl ?_)
                refine xAll (rs := [13]) (by kernel_rfl) rfl ⟨?_, trivial⟩
                · (refine iC rfl Tryz.func34 rfl rfl (ht2) rfl ?_ rfl rfl ?_; (focus ((repeat (first | exact .refl _ | apply Les.cons | exact .nil)); done)))
                  refine xAll (rs := [14]) (by kernel_rfl) rfl ⟨?_, trivial⟩
                  · (refine iC rfl Tryz.func36 rfl rfl (hmi) rfl (by repeat (first | exact .refl _ | apply Les.cons | exact .nil)) rfl rfl ?_)
                    refine xAll (rs := [15]) (by kernel_rfl) rfl ⟨?_, trivial⟩
                    · (refine iC rfl Tryz.func35 rfl rfl (hp) rfl (by repeat (first | exact .refl _ | apply Les.cons | exact .nil)) rfl rfl ?_)
                      refine xAll (rs := [17]) (by kernel_rfl) rfl ⟨?_, trivial⟩
                      · (refine iE rfl (e_store rfl rfl rfl rfl rfl rfl rfl) rfl rfl ?_)
                        exact xEnd (by kernel_rfl) ⟨rfl, by (repeat (first | exact sub_nil | refine sub_cons rfl ?_)), by (repeat (first | exact subH_nil | refine subH_cons rfl ?_))⟩
      · (refine iE rfl (e_alloc rfl rfl rfl) rfl rfl ?_)
        refine xAll (rs := [5]) (by kernel_rfl) rfl ⟨?_, trivial⟩
        · (refine iC rfl Tryz.func32 rfl rfl (wideOf_c _ _) rfl (by repeat (first | exact .refl _ | apply Les.cons | exact .nil)) rfl rfl ?_)
          refine xAll (rs := [6]) (by kernel_rfl) rfl ⟨?_, trivial⟩
          · (refine iC rfl Tryz.func34 rfl rfl (ht1) rfl ?_ rfl rfl ?_; (focus ((repeat (first | exact .refl _ | apply Les.cons | exact .nil)); done)))
            refine xAll (rs := [9]) (by kernel_rfl) rfl ⟨?_, trivial⟩
            · (refine iC rfl Tryz.func32 rfl rfl (wideOf_c _ _) rfl (by repeat (first | exact .refl _ | apply Les.cons | exact .nil)) rfl rfl ?_)
              refine xAll (rs := [12]) (by kernel_rfl) rfl ⟨?_, trivial⟩
              · (refine iC rfl Tryz.func32 rfl rfl (wideOf_c _ _) rfl (by repeat (first | exact .refl _ | apply Les.cons | exact .nil)) rfl rfl ?_)
                refine xAll (rs := [13]) (by kernel_rfl) rfl ⟨?_, trivial⟩
                · (refine iC rfl Tryz.func34 rfl rfl (ht2) rfl ?_ rfl rfl ?_; (focus ((repeat (first | exact .refl _ | apply Les.cons | exact .nil)); done)))
                  refine xAll (rs := [14]) (by kernel_rfl) rfl ⟨?_, trivial⟩
                  · (refine iC rfl Tryz.func36 rfl rfl (hmi) rfl (by repeat (first | exact .refl _ | apply Les.cons | exact .nil)) rfl rfl ?_)
                    refine xAll (rs := [15]) (by kernel_rfl) rfl ⟨?_, trivial⟩
                    · (refine iC rfl Tryz.func35 rfl rfl (hp) rfl (by repeat (first | exact .refl _ | apply Les.cons | exact .nil)) rfl rfl ?_)
                      refine xAll (rs := [17]) (by kernel_rfl) rfl ⟨?_, trivial⟩
                      · (refine iE rfl (e_store rfl rfl rfl rfl rfl rfl rfl) rfl rfl ?_)
                        exact xEnd (by kernel_rfl) ⟨rfl, by (repeat (first | exact sub_nil | refine sub_cons rfl ?_)), by (repeat (first | exact subH_nil | refine subH_cons rfl ?_))⟩
    · (refine iE rfl (e_alloc rfl rfl rfl) rfl rfl ?_)
      refine xAll (rs := [2]) (by kernel_rfl) rfl ⟨?_, trivial⟩
      · (refine iC rfl Tryz.func32 rfl rfl (wideOf_c _ _) rfl (by repeat (first | exact .refl _ | apply Les.cons | exact .nil)) rfl rfl ?_)
        refine xAll (rs := [5]) (by kernel_rfl) rfl ⟨?_, trivial⟩
        · (refine iC rfl Tryz.func32 rfl rfl (wideOf_c _ _) rfl (by repeat (first | exact .refl _ | apply Les.cons | exact .nil)) rfl rfl ?_)
          refine xAll (rs := [6]) (by kernel_rfl) rfl ⟨?_, trivial⟩
          · (refine iC rfl Tryz.func34 rfl rfl (ht1) rfl ?_ rfl rfl ?_; (focus ((repeat (first | exact .refl _ | apply Les.cons | exact .nil)); done)))
            refine xAll (rs := [9]) (by kernel_rfl) rfl ⟨?_, trivial⟩
            · (refine iC rfl Tryz.func32 rfl rfl (wideOf_c _ _) rfl (by repeat (first | exact .refl _ | apply Les.cons | exact .nil)) rfl rfl ?_)
              refine xAll (rs := [12]) (by kernel_rfl) rfl ⟨?_, trivial⟩
              · (refine iC rfl Tryz.func32 rfl rfl (wideOf_c _ _) rfl (by repeat (first | exact .refl _ | apply Les.cons | exact .nil)) rfl rfl ?_)
                refine xAll (rs := [13]) (by kernel_rfl) rfl ⟨?_, trivial⟩
                · (refine iC rfl Tryz.func34 rfl rfl (ht2) rfl ?_ rfl rfl ?_; (focus ((repeat (first | exact .refl _ | apply Les.cons | exact .nil)); done)))
                  refine xAll (rs := [14]) (by kernel_rfl) rfl ⟨?_, trivial⟩
                  · (refine iC rfl Tryz.func36 rfl rfl (hmi) rfl (by repeat (first | exact .refl _ | apply Les.cons | exact .nil)) rfl rfl ?_)
                    refine xAll (rs := [15]) (by kernel_rfl) rfl ⟨?_, trivial⟩
                    · (refine iC rfl Tryz.func35 rfl rfl (hp) rfl (by repeat (first | exact .refl _ | apply Les.cons | exact .nil)) rfl rfl ?_)
                      refine xAll (rs := [17]) (by kernel_rfl) rfl ⟨?_, trivial⟩
                      · (refine iE rfl (e_store rfl rfl rfl rfl rfl rfl rfl) rfl rfl ?_)
                        exact xEnd (by kernel_rfl) ⟨rfl, by (repeat (first | exact sub_nil | refine sub_cons rfl ?_)), by (repeat (first | exact subH_nil | refine subH_cons rfl ?_))⟩
  by_cases h0 : A = 0
  · subst h0
    rw [show isg (sgn N 0) = 0 by rw [sgn_zero]; rfl]
    have : ln 0 = 0 := rfl
    repeat (first | refine seq_ ?_ | refine region_ ?_ | refine nil_ ?_ | refine ret_ ?_ | refine block_ ?_ | refine cond_t rfl ?_ | refine stepY (y_assign rfl) rfl ?_ | refine stepY (y_load1 rfl rfl rfl) rfl ?_ | refine stepY (y_fieldAddr rfl) rfl ?_ | refine stepY (y_len_si rfl) rfl ?_ | refine stepY (y_cmpT rfl rfl rfl (by omega)) rfl ?_)
    ((apply fin_r); (repeat (first | exact .nil | exact .tmp rfl | apply ResL.cons)); (repeat (exact .refl _)))
  · have hA := ln_pos.2 (Nat.pos_of_ne_zero h0)
    cases N
    · rw [show isg (sgn false A) = 1 by unfold isg sgn; rw [if_neg (by simp), if_pos (by simp; omega)]]
      repeat (first | refine seq_ ?_ | refine region_ ?_ | refine nil_ ?_ | refine skip_ ?_ | refine ret_ ?_ | refine block_ ?_ | refine cond_f rfl ?_ | refine stepY (y_assign rfl) rfl ?_ | refine stepY (y_load1 rfl rfl rfl) rfl ?_ | refine stepY (y_fieldAddr rfl) rfl ?_ | refine stepY (y_len_si rfl) rfl ?_ | refine stepY (y_cmpF rfl rfl rfl (by omega)) rfl ?_)
      ((apply fin_r); (repeat (first | exact .nil | exact .tmp rfl | apply ResL.cons)); (repeat (exact .refl _)))
    · rw [show isg (sgn true A) = -1 by unfold isg sgn; rw [if_pos (by simp; omega)]]
      repeat (first | refine seq_ ?_ | refine region_ ?_ | refine nil_ ?_ | refine ret_ ?_ | refine block_ ?_ | refine cond_t rfl ?_ | refine cond_f rfl ?_ | refine stepY (y_assign rfl) rfl ?_ | refine stepY (y_load1 rfl rfl rfl) rfl ?_ | refine stepY (y_fieldAddr rfl) rfl ?_ | refine stepY (y_len_si rfl) rfl ?_ | refine stepY (y_cmpF rfl rfl rfl (by omega)) rfl ?_)
      ((apply fin_r); (repeat (first | exact .nil | exact .tmp rfl | apply ResL.cons)); (repeat (exact .refl _)))
theorem compare_q (x y : Rat) (hx : okQ x) (hy : okQ y) : Con Tryz.prog 37 [QV x, QV y] (I (qcmp x y)) := by
  have := compare_g _ _ _ _ _ _ (vG_q hx) (vG_q hy)
  rwa [sgn_self, sgn_self, qcmp_isg] at this
theorem FCmp_q (x y : Rat) (hx : okQ x) (hy : okQ y) : Con Tryz.prog 26 [QV x, QV y] (.tp [I (qcmp x y), E_ 0]) := by
  have hv := valid2_t (vG_q hx) (vG_q hy)
  have hc := compare_q x y hx hy
  refine con_of Tryz.func26 rfl rfl rfl rfl rfl ?_
  repeat (first | refine seq_ ?_ | refine region_ ?_ | refine nil_ ?_ | refine stepY (y_assign rfl) rfl ?_ | refine stepY (y_loadA rfl rfl rfl) rfl ?_ | refine stepE (e_box rfl rfl rfl rfl rfl rfl) ?_ | refine stepE (e_bs_vs rfl rfl rfl rfl rfl rfl) ?_)
  refine seal_Ls (i := 8) (h := 8) rfl rfl rfl rfl ?_
  refine call_ Tryz.func33 rfl rfl (hv) rfl (by repeat (first | exact .tags _ _ | apply Les.cons | exact .nil)) rfl ?_
  repeat (first | refine seq_ ?_ | refine region_ ?_ | refine nil_ ?_ | refine skip_ ?_ | refine cond_f rfl ?_ | refine stepY (y_loadA rfl rfl rfl) rfl ?_ | refine stepY (y_not rfl) rfl ?_)
  refine call_ Tryz.func37 rfl rfl (hc) rfl (by repeat (first | exact .refl _ | apply Les.cons | exact .nil)) rfl ?_
  repeat (first | refine nil_ ?_ | refine ret_ ?_ | refine stepY (y_assign rfl) rfl ?_)
  ((apply fin_r); (repeat (first | exact .nil | exact .tmp rfl | apply ResL.cons)); (repeat (exact .refl _)))
theorem FAdd_q (x y : Rat) (hx : okQ x) (hy : okQ y) : Con Tryz.prog 10 [QV x, QV y] (resQ (x + y)) := by
  have := FAdd_g _ _ _ _ _ _ (vG_q hx) (vG_q hy)
  rwa [mk_self, mk_self] at this
theorem FSub_q (x y : Rat) (hx : okQ x) (hy : okQ y) : Con Tryz.prog 11 [QV x, QV y] (resQ (x - y)) := by
  have := FSub_g _ _ _ _ _ _ (vG_q hx) (vG_q hy)
  rwa [mk_self, mk_self] at this
theorem FMul_q (x y : Rat) (hx : okQ x) (hy : okQ y) : Con Tryz.prog 12 [QV x, QV y] (resQ (x * y)) := by
  have := FMul_g _ _ _ _ _ _ (vG_q hx) (vG_q hy)
  rwa [mk_self, mk_self] at this
theorem num_ne {y : Rat} (h0 : y ≠ 0) : 0 < y.num.natAbs := by
  rcases Nat.eq_zero_or_pos y.num.natAbs with h | h
  · exact absurd (Rat.num_eq_zero.1 (by omega)) h0
  · exact h
theorem FDiv_q (x y : Rat) (hx : okQ x) (hy : okQ y) (h0 : y ≠ 0) : Con Tryz.prog 13 [QV x, QV y] (resQ (x / y)) := by
  have := FDiv_g _ _ _ _ _ _ (vG_q hx) (vG_q hy) (num_ne h0)
  rwa [mk_self, mk_self] at this
theorem FDiv_0 (x : Rat) (hx : okQ x) : Con Tryz.prog 13 [QV x, QV 0] (.tp [ZF, E_ 12]) :=
  FDiv_z _ _ _ _ _ (vG_q hx) (vG_q (x := 0) (by decide))
end Go.Av

set_option linter.unusedVariables false
set_option linter.unusedSimpArgs false
namespace Go.Av
open Go Go.RowKit
section
variable {P : Program} {N : Nat} {E : Env} {H : Hp} {Q : Exit → Env → Hp → Prop} {ops : Array Oper} {rest : List Oper}
theorem y_adds {x y : Operand} {t t' ty : TypeId} {a b : ByteArray} (hx : evT E x = some (.p (.v (.string a)))) (hy : evT E y = some (.p (.v (.string b)))) (h : a.size + b.size ≤ 9223372036854775807) : Yl P (.binOp .add t x y t') ty E H (.p (.v (.string (a ++ b)))) .no := by
  unfold Yl
  intro _ _ _ _ _ _ r
  refine ⟨.string (a ++ b), fun W _ _ _ _ _ => ?_, by simp [RelT, Rel]⟩
  simp only [execOp, ev_v r hx, ev_v r hy, eqGuard, Sem.run_bind, Sem.run_pure, Result.andThen_ok, binOp_string_add, Bool.not_false, if_true]
  rw [run_string_add_sum W a b h]
  rfl
/-- internal/bytealg.IndexByteString: the model stands in for it. -/
theorem y_ixb {x y : Operand} {f : FuncId} {fn : Func} {ts : Array TypeId} {ty : TypeId} {s : ByteArray} {c : Int} (hf : P.funcs[f]? = some fn) (hname : (fn.name == "runtime.NumGoroutine") = false) (hb : fn.body.isNone = true)
    (hn : Extern.findNext fn = none) (he : Extern.find fn = some Extern.BytealgIndexByte.indexByte) (hx : evT E x = some (.p (.v (.string s)))) (hy : evT E y = some (.p (.v (.int .u8 c)))) :
    Yl P (.call { callee := .value (.func f), args := #[x, y], argTypes := ts }) ty E H (.p (.v (.int .i64 (firstIdx s c.toNat.toUInt8)))) .no := by
  unfold Yl
  intro _ _ _ _ tmps _ r
  have hv : Act.eval ⟨tmps, []⟩ (.func f) = .func (.func f) #[] #[] := rfl
  refine ⟨.int .i64 (firstIdx s c.toNat.toUInt8), fun W _ _ _ _ _ => ?_, by simp [RelT, Rel]⟩
  have := run_callFunc_extern (P := P) hf hname hb hn he #[.string s, .int .u8 c] W
  rw [run_indexByte_string] at this
  simp [execOp, resolve, Deferred.ofValue, hv, ev_v r hx, ev_v r hy, invoke] at this ⊢
  simp [this]
end
end Go.Av

set_option linter.unusedVariables false
set_option linter.unusedSimpArgs false
/-! The logic inside a fence: straight code in a round, and behind a range over a function. -/
namespace Go.Av
open Go Go.RowKit
mutual
theorem Rel.cells {w w' : World} {ok ok' : Bool → Nat → Prop} (h1 : ∀ f b, ok f b → ok' f b) (h2 : ∀ f b i v, ok f b → w.cell? ⟨b, i, none⟩ = some v → w'.cell? ⟨b, i, none⟩ = some v) (h3 : ∀ b, soft w b → soft w' b) : ∀ (x : PV) (y : Value), Rel w ok x y → Rel w' ok' x y
  | .v x, y, h => by simpa only [Rel] using h
  | .si f k l, y, h => by
    simp only [Rel] at h ⊢
    obtain ⟨A, c, e, hc, hm, hl, hcell⟩ := h
    refine ⟨A, c, e, hc, hm, hl, fun hp => ?_⟩
    obtain ⟨b, o, hA, hok, hx⟩ := hcell hp
    exact ⟨b, o, hA, ⟨h1 _ _ hok.1, fun hf => h3 _ (hok.2 hf)⟩, fun j x hj => h2 _ _ _ _ hok.1 (hx j x hj)⟩
  | .ss f sz es, y, h => by
    simp only [Rel] at h ⊢
    obtain ⟨A, c, ys, e, hc, hm, hl, hr, hs, hcell⟩ := h
    refine ⟨A, c, ys, e, hc, hm, hl, Rels.cells h1 h2 h3 es ys hr, hs, fun hp => ?_⟩
    obtain ⟨b, o, hA, hok, hx⟩ := hcell hp
    exact ⟨b, o, hA, ⟨h1 _ _ hok.1, fun hf => h3 _ (hok.2 hf)⟩, fun j x hj => h2 _ _ _ _ hok.1 (hx j x hj)⟩
  | .ag cs, y, h => by
    simp only [Rel] at h ⊢
    obtain ⟨ys, e, hr⟩ := h
    exact ⟨ys, e, Rels.cells h1 h2 h3 cs ys hr⟩
  | .tp fs, y, h => by
    simp only [Rel] at h ⊢
    obtain ⟨ys, e, hr⟩ := h
    exact ⟨ys, e, Rels.cells h1 h2 h3 fs ys hr⟩
theorem Rels.cells {w w' : World} {ok ok' : Bool → Nat → Prop} (h1 : ∀ f b, ok f b → ok' f b) (h2 : ∀ f b i v, ok f b → w.cell? ⟨b, i, none⟩ = some v → w'.cell? ⟨b, i, none⟩ = some v) (h3 : ∀ b, soft w b → soft w' b) : ∀ (xs : List PV) (ys : List Value), Rels w ok xs ys → Rels w' ok' xs ys
  | [], ys, h => by simpa only [Rels] using h
  | x :: xs, ys, h => by
    simp only [Rels] at h ⊢
    obtain ⟨y, zs, e, hx, hxs⟩ := h
    exact ⟨y, zs, e, Rel.cells h1 h2 h3 x y hx, Rels.cells h1 h2 h3 xs zs hxs⟩
end
/-- only boxes -/
def boxesB : Hp → Bool
  | [] => true
  | (_, .bx _) :: r => boxesB r
  | _ :: _ => false
theorem boxesB_bx : ∀ {H : Hp}, boxesB H = true → ∀ h m, hk h H = some m → ∃ cs, m = .bx cs
  | [], _, h, m, hm => by simp [hk] at hm
  | (j, .bx cs) :: r, hb, h, m, hm => by
    rcases hk_cons hm with ⟨rfl, rfl⟩ | ⟨_, hm'⟩
    · exact ⟨cs, rfl⟩
    · exact boxesB_bx (H := r) (by simpa [boxesB] using hb) h m hm'
  | (j, .vi _ _ _) :: r, hb, h, m, hm => by simp [boxesB] at hb
  | (j, .vs _ _ _) :: r, hb, h, m, hm => by simp [boxesB] at hb
  | (j, .it _ _) :: r, hb, h, m, hm => by simp [boxesB] at hb
/-- temporaries that say nothing of rows -/
def plainT : TV → Bool
  | .p _ | .ptr _ _ | .rc _ | .ro _ | .junk => true
  | _ => false
theorem RelT.cells {w w' : World} {ok ok' : Bool → Nat → Prop} {ρ : Nat → Value} (h1 : ∀ f b, ok f b → ok' f b) (h2 : ∀ f b i v, ok f b → w.cell? ⟨b, i, none⟩ = some v → w'.cell? ⟨b, i, none⟩ = some v) (h3 : ∀ b, soft w b → soft w' b) (h4 : ∀ b, ok false b → ok' true b → ok true b) {x : TV} {y : Value} (h : RelT w ok ρ x y) : RelT w' ok' ρ x y := by
  cases x with
  | p x => simp only [RelT] at h ⊢; exact Rel.cells h1 h2 h3 x y h
  | ptr k off => simpa only [RelT] using h
  | vec k => simpa only [RelT] using h
  | vw k off n => simpa only [RelT] using h
  | vb k n => simpa only [RelT] using h
  | vp k off => simpa only [RelT] using h
  | rc x =>
    simp only [RelT] at h ⊢
    obtain ⟨b, o, z, e, hok, hr, hc⟩ := h
    exact ⟨b, o, z, e, h1 _ _ hok, Rel.cells h1 h2 h3 x z hr, fun j u hj => h2 _ _ _ _ hok (hc j u hj)⟩
  | ro x =>
    simp only [RelT] at h ⊢
    obtain ⟨b, o, z, e, hok, hr, hc⟩ := h
    exact ⟨b, o, z, e, ⟨h1 _ _ hok.1, fun hn => hok.2 (h4 b hok.1 hn)⟩, Rel.cells (fun _ b hb => ⟨h1 _ _ hb.1, fun hn => hb.2 (h4 b hb.1 hn)⟩) (fun _ b i v hb => h2 false b i v hb.1) h3 x z hr, fun j u hj => h2 _ _ _ _ hok.1 (hc j u hj)⟩
  | junk => simp only [RelT]
section
variable {P : Program} {N : Nat} {E : Env} {H : Hp} {okA : Acc} {w0 : World} {ρ : Nat → Value} {tmps : Array Value} {w w' : World}
/-- A block that is no cells turns. -/
theorem Rep.turn (r : Rep okA w0 N ρ E H tmps w) {row : Option Nat} (hb : boxesB H = true) (hg : w.grownBy w' row) (hr : ∀ k, row = some k → w0.heap.size ≤ k ∧ ∃ o : Obj, w.heap[k]? = some o ∧ o.isCells = false) : Rep okA w0 N ρ E H tmps w' := by
  have hc : ∀ b i v, w.cell? ⟨b, i, none⟩ = some v → w'.cell? ⟨b, i, none⟩ = some v := fun b i v h => cell_kept h hg (fun k e => (hr k e).2)
  have hok : ∀ f b, okF okA w0.heap.size ρ H w.heap.size f b → okF okA w0.heap.size ρ H w'.heap.size f b := fun f b h => h.grow hg.size
  have hs : ∀ b, soft w b → soft w' b := fun b ⟨c, t, h⟩ => ⟨c, t, (hg.block b (Array.getElem?_eq_some_iff.1 h).1 (fun e2 => by
    obtain ⟨_, o, ho, hno⟩ := hr b e2.symm
    rw [h] at ho
    cases ho
    cases hno)).trans h⟩
  refine ⟨r.below.trans ⟨hg.os, hg.tape, hg.output, hg.size, fun k hk _ => hg.block k (Nat.lt_of_lt_of_le hk r.below.size) (fun e => by have := (hr k e.symm).1; omega)⟩, r.own, fun h m hm => ?_, r.disj, fun i x hx => ?_, r.size, r.lent, r.small⟩
  · obtain ⟨cs, rfl⟩ := boxesB_bx hb h m hm
    have h0 := r.heap h _ hm
    simp only [RelB] at h0 ⊢
    obtain ⟨g, t, ys, e, hB, hh, hy, h1⟩ := h0
    refine ⟨g, t, ys, e, hB, ?_, Rels.cells hok (fun f b i v _ => hc b i v) hs cs ys hy, h1⟩
    refine (hg.block g (Array.getElem?_eq_some_iff.1 hh).1 (fun e2 => ?_)).trans hh
    obtain ⟨_, o, ho, hno⟩ := hr g e2.symm
    rw [hh] at ho
    cases ho
    cases hno
  · obtain ⟨y, hy, h0⟩ := r.env i x hx
    exact ⟨y, hy, h0.cells hok (fun f b i v _ => hc b i v) hs (fun _ h h' => h.old h')⟩
/-- What is tracked from a world W0 on: of what stood there only blocks of S have changed. -/
structure Tk (S : Nat → Prop) (W0 : World) (H : Hp) (ρ : Nat → Value) (w : World) : Prop where
  os : w.os = W0.os
  tape : w.tape = W0.tape
  output : w.output = W0.output
  size : W0.heap.size ≤ w.heap.size
  same : ∀ b, b < W0.heap.size → ¬ S b → w.heap[b]? = W0.heap[b]?
  own : ∀ h m b, hk h H = some m → blk (ρ h) = some b → W0.heap.size ≤ b ∨ S b
def wideR : Option Nat → Fence
  | none => Fence.wide
  | some l => Fence.wide.inRound l
theorem wideR_fn {l : Option Nat} (f : FuncId) : (wideR l).fn f := by cases l <;> trivial
theorem wideR_depth {l : Option Nat} {n : Nat} : (wideR l).depth.isSome = true → 1 ≤ n := by cases l <;> (intro h; cases h)
theorem wideR_calls {l : Option Nat} {n : Nat} {f : FuncId} {args : Array Value} {R : Ending → World → Prop} (h : Calls P f args w R) : CallsIn (wideR l) n P f args w R := by
  cases l with
  | none => exact callsIn_wide.2 h
  | some l => exact CallsIn.inRound l (callsIn_wide.2 h)
def ndf : Op → Bool
  | .defer _ => false
  | _ => true
theorem ndf_ne {op : Op} (h : ndf op = true) : ∀ c, op ≠ .defer c := by intro c e; subst e; cases h
theorem eval_ds (tmps : Array Value) (ds : List Deferred) : Act.eval ⟨tmps, ds⟩ = Act.eval ⟨tmps, []⟩ := by funext o; cases o <;> rfl
theorem put_ds (tmps : Array Value) (ds : List Deferred) (dst : Option Tmp) (y : Value) : Act.put ⟨tmps, ds⟩ dst y = ⟨(Act.put ⟨tmps, []⟩ dst y).tmps, ds⟩ := by cases dst <;> rfl
def offK (kp : List Nat) : Option Tmp → Bool
  | none => true
  | some d => kp.all fun i => !Nat.beq i d
theorem offK_put {kp : List Nat} {dst : Option Tmp} {tmps : Array Value} {y : Value} (h : offK kp dst = true) : ∀ i ∈ kp, (Act.put ⟨tmps, []⟩ dst y).tmps[i]? = tmps[i]? := by
  intro i hi
  cases dst with
  | none => rfl
  | some d =>
    have h1 := List.all_eq_true.1 h i hi
    have hne : d ≠ i := fun e => by subst e; simp at h1
    show (tmps.setIfInBounds d y)[i]? = tmps[i]?
    exact Array.getElem?_setIfInBounds_ne hne
/-- Straight code: the end, as the walk tells it, is all that is asked. -/
def EndF (N : Nat) (ds : List Deferred) (kp : List Nat) (okA : Acc) (w0 : World) (tmps : Array Value) (S : Nat → Prop) (W0 : World) (K : Env → Hp → Prop) (Q : Exit → Act → World → Prop) : Prop :=
  ∀ ρ' E' H' tmps' w', Rep okA w0 N ρ' E' H' tmps' w' → Tk S W0 H' ρ' w' → (∀ i ∈ kp, tmps'[i]? = tmps[i]?) → K E' H' → Q .normal ⟨tmps', ds⟩ w'
def TrF (l : Option Nat) (n : Nat) (ds : List Deferred) (kp : List Nat) (P : Program) (N : Nat) (ops : Array Oper) (rest : List Oper) (E : Env) (H : Hp) (K : Env → Hp → Prop) : Prop :=
  ∀ okA w0 ρ tmps w S W0 Q, Rep okA w0 N ρ E H tmps w → Tk S W0 H ρ w → EndF N ds kp okA w0 tmps S W0 K Q → wpListIn (wideR l) n P ops Q rest ⟨tmps, ds⟩ w
def TrC (l : Option Nat) (n : Nat) (ds : List Deferred) (kp : List Nat) (P : Program) (N : Nat) (c : Code) (E : Env) (H : Hp) (K : Env → Hp → Prop) : Prop :=
  ∀ okA w0 ρ tmps w S W0 Q, Rep okA w0 N ρ E H tmps w → Tk S W0 H ρ w → EndF N ds kp okA w0 tmps S W0 K Q → c.wpIn (wideR l) n P Q ⟨tmps, ds⟩ w
end
section
variable {l : Option Nat} {n : Nat} {ds : List Deferred} {kp : List Nat} {P : Program} {N : Nat} {ops : Array Oper} {rest : List Oper} {E : Env} {H : Hp} {K : Env → Hp → Prop}
theorem EndF.step {okA : Acc} {w0 : World} {tmps tmps1 : Array Value} {S : Nat → Prop} {W0 : World} {Q : Exit → Act → World → Prop} (h : EndF N ds kp okA w0 tmps S W0 K Q) (hk : ∀ i ∈ kp, tmps1[i]? = tmps[i]?) : EndF N ds kp okA w0 tmps1 S W0 K Q :=
  fun ρ' E' H' tmps' w' r t e k => h ρ' E' H' tmps' w' r t (fun i hi => (e i hi).trans (hk i hi)) k
theorem nilF_ (h : K E H) : TrF l n ds kp P N ops [] E H K := fun okA w0 ρ tmps w S W0 Q r t e => wpListIn_nil (e ρ E H tmps w r t (fun _ _ => rfl) h)
theorem regionF_ {id : Nat} {os : List Oper} (h : TrF l n ds kp P N os.toArray os E H K) : TrC l n ds kp P N (.region id os.toArray false) E H K :=
  fun okA w0 ρ tmps w S W0 Q r t e => wpIn_region_lit (h okA w0 ρ tmps w S W0 Q r t e)
theorem seqF_ {x y : Code} (h : TrC l n ds kp P N x E H (fun E' H' => TrC l n ds kp P N y E' H' K)) : TrC l n ds kp P N (.seq x y) E H K :=
  fun okA w0 ρ tmps w S W0 Q r t e => wpIn_seq (h okA w0 ρ tmps w S W0 _ r t (fun ρ' E' H' tmps' w' r' t' hk k => k okA w0 ρ' tmps' w' S W0 Q r' t' (e.step hk)))
theorem blockF_ {id : Nat} {c : Code} (h : TrC l n ds kp P N c E H K) : TrC l n ds kp P N (.block id c) E H K :=
  fun okA w0 ρ tmps w S W0 Q r t e => wpIn_block (h okA w0 ρ tmps w S W0 _ r t (fun ρ' E' H' tmps' w' r' t' hk k => e ρ' E' H' tmps' w' r' t' hk k))
theorem skipF_ (h : K E H) : TrC l n ds kp P N .skip E H K :=
  fun okA w0 ρ tmps w S W0 Q r t e => wpIn_skip (e ρ E H tmps w r t (fun _ _ => rfl) h)
theorem stepYF {d : Nat} {op : Op} {ty : TypeId} {pos : String} {af : Array Edge} {x : TV} {rd : Rd} (h : Yl P op ty E H x rd) (hd : (Nat.blt d N && offK kp (some d) && ndf op) = true) (k : TrF l n ds kp P N ops rest ((d, x) :: E) H K) :
    TrF l n ds kp P N ops (⟨some d, op, ty, pos, af, none⟩ :: rest) E H K := by
  intro okA w0 ρ tmps w S W0 Q r t e
  simp only [Bool.and_eq_true] at hd
  unfold Yl at h
  obtain ⟨y, hrun, hr⟩ := h okA w0 N ρ tmps w r
  refine wpListIn_plain rfl fun K' hK => ?_
  have := hrun w (rd.same_refl _ _ _) (some d) pos af none
  refine ⟨fun f _ => wideR_fn f, ?_⟩
  rw [Oper.semAt_plain _ _ _ (ndf_ne hd.2), eval_ds, this, Oper.uponIn_value, put_ds]
  exact hK _ _ (k okA w0 ρ _ w S W0 Q (r.put (Nat.le_of_ble_eq_true hd.1.1) hr) t (e.step (offK_put hd.1.2)))
theorem Tk.eff {S : Nat → Prop} {W0 : World} {ρ ρ' : Nat → Value} {w w' : World} {H' : Hp} {W : List Nat} (t : Tk S W0 H ρ w) (hf : w'.os = w.os ∧ w'.tape = w.tape ∧ w'.output = w.output)
    (h1 : ∀ b, b < w.heap.size → (∀ h ∈ W, ∀ m, hk h H = some m → blk (ρ h) ≠ some b) → w'.heap[b]? = w.heap[b]?) (h2 : w.heap.size ≤ w'.heap.size) (h3 : ∀ h, h ∉ W → ρ' h = ρ h)
    (h4 : ∀ h m, hk h H' = some m → h ∉ W → ∃ m0, hk h H = some m0) (h5 : ∀ h ∈ W, ∀ b, blk (ρ' h) = some b → w.heap.size ≤ b ∨ ∃ m0, hk h H = some m0 ∧ blk (ρ h) = some b) : Tk S W0 H' ρ' w' := by
  refine ⟨hf.1.trans t.os, hf.2.1.trans t.tape, hf.2.2.trans t.output, Nat.le_trans t.size h2, fun b hb hs => ?_, fun h m b hm hb => ?_⟩
  · refine (h1 b (Nat.lt_of_lt_of_le hb t.size) fun h hh m hm e => ?_).trans (t.same b hb hs)
    rcases t.own h m b hm e with h6 | h6
    · omega
    · exact hs h6
  · by_cases hW : h ∈ W
    · rcases h5 h hW b hb with h6 | ⟨m0, h6, h7⟩
      · exact .inl (Nat.le_trans t.size h6)
      · exact t.own h m0 b h6 h7
    · obtain ⟨m0, hm0⟩ := h4 h m hm hW
      rw [h3 h hW] at hb
      exact t.own h m0 b hm0 hb
theorem stepEF {dst : Option Tmp} {op : Op} {ty : TypeId} {pos : String} {af : Array Edge} {E' : Env} {H' : Hp} {W : List Nat} (h : Eff P N dst op ty E H E' H' W) (hd : (offK kp dst && ndf op) = true) (k : TrF l n ds kp P N ops rest E' H' K) :
    TrF l n ds kp P N ops (⟨dst, op, ty, pos, af, none⟩ :: rest) E H K := by
  intro okA w0 ρ tmps w S W0 Q r t e
  simp only [Bool.and_eq_true] at hd
  unfold Eff at h
  obtain ⟨nx, y, ρ', w', hrun, hn, hr, h1, h2, h3, h4, h5⟩ := h okA w0 ρ tmps w r
  have t' : Tk S W0 H' ρ' w' := t.eff ⟨hr.below.os.trans r.below.os.symm, hr.below.tape.trans r.below.tape.symm, hr.below.output.trans r.below.output.symm⟩ h1 h2 h3 h4 h5
  refine wpListIn_plain rfl fun K' hK => ?_
  have := hrun pos af none
  refine ⟨fun f _ => wideR_fn f, ?_⟩
  rw [Oper.semAt_plain _ _ _ (ndf_ne hd.2), eval_ds, this]
  rcases hn with rfl | ⟨rfl, rfl⟩
  · rw [Oper.uponIn_value, put_ds]
    exact hK _ _ (k okA w0 ρ' _ w' S W0 Q hr t' (e.step (offK_put hd.1)))
  · rw [Oper.uponIn_skip, put_ds]
    exact hK _ _ (k okA w0 ρ' _ w' S W0 Q hr t' (e.step (offK_put hd.1)))
theorem callF_ {d : Nat} {f : FuncId} {fn : Func} {os : Array Operand} {ts : Array TypeId} {ty : TypeId} {pos : String} {af : Array Edge} {args xs : List PV} {res : PV} (hf : P.funcs[f]? = some fn) (hn : (fn.name == "runtime.NumGoroutine") = false) (hb : fn.body.isNone = false)
    (hc : Con P f args res) (hx : evs E os.toList = some xs) (hle : Les xs args) (hd : (Nat.blt d N && offK kp (some d)) = true) (k : TrF l n ds kp P N ops rest ((d, .p res) :: E) H K) :
    TrF l n ds kp P N ops (⟨some d, .call { callee := .value (.func f), args := os, argTypes := ts }, ty, pos, af, none⟩ :: rest) E H K := by
  intro okA w0 ρ tmps w S W0 Q r t e
  simp only [Bool.and_eq_true] at hd
  refine wpListIn_plain rfl fun K' hK => ?_
  have hcall := call_rep r hc hx hle
  have hrun : (execOp (Act.eval ⟨tmps, []⟩) ⟨some d, .call { callee := .value (.func f), args := os, argTypes := ts }, ty, pos, af, none⟩).run P w = .ok (.enter f (os.map (Act.eval ⟨tmps, []⟩))) w := by
    have hn' : ¬ fn.name = "runtime.NumGoroutine" := by simpa using hn
    have hb' : ¬ fn.body = none := by intro h; rw [h] at hb; simp at hb
    simp [execOp, resolve, Deferred.ofValue, Act.eval, invoke, callFunc, hf, hn', hb']
  refine ⟨fun f _ => wideR_fn f, ?_⟩
  rw [Oper.semAt_plain _ _ _ (ndf_ne rfl), eval_ds, hrun, Oper.uponIn_enter]
  refine ⟨wideR_depth, wideR_calls ?_⟩
  have harr : os.map (Act.eval ⟨tmps, []⟩) = (os.toList.map (Act.eval ⟨tmps, []⟩)).toArray := by apply Array.ext'; simp
  rw [harr]
  refine hcall.mono fun en w' ⟨y, he, hr, hrel, hbl⟩ => ?_
  subst he
  have t' : Tk S W0 H ρ w' := ⟨hbl.os.trans t.os, hbl.tape.trans t.tape, hbl.output.trans t.output, Nat.le_trans t.size hbl.size, fun b hb hs => (hbl.block b (Nat.lt_of_lt_of_le hb t.size)).trans (t.same b hb hs), t.own⟩
  show K' (Act.put ⟨tmps, ds⟩ (some d) y) w'
  rw [put_ds]
  exact hK _ _ (k okA w0 ρ _ w' S W0 Q (hr.put (Nat.le_of_ble_eq_true hd.1) (x := .p res) (by simpa only [RelT] using hrel)) t' (e.step (offK_put hd.2)))
end
end Go.Av

set_option maxHeartbeats 4000000
set_option maxRecDepth 100000
set_option linter.unusedVariables false
set_option linter.unusedSimpArgs false
/-! slices.Backward over numbers with a sign -/
namespace Go.Av
open Go Go.RowKit Go.Proofs
section
variable {l : Option Nat} {n : Nat} {ds : List Deferred} {P : Program} {N : Nat} {ops : Array Oper} {rest : List Oper} {E : Env} {H : Hp}
theorem setOff (tmps : Array Value) (d : Nat) (y : Value) : ∀ i, Nat.beq i d = false → (tmps.setIfInBounds d y)[i]? = tmps[i]? := by
  intro i hi
  exact Array.getElem?_setIfInBounds_ne (fun e => by subst e; simp at hi)
theorem stepYR {okA : Acc} {w0 : World} {ρ : Nat → Value} {tmps : Array Value} {w : World} {Q : Exit → Act → World → Prop} {d : Nat} {op : Op} {ty : TypeId} {pos : String} {af : Array Edge} {x : TV} {rd : Rd}
    (r : Rep okA w0 N ρ E H tmps w) (h : Yl P op ty E H x rd) (hd : (Nat.blt d N && ndf op) = true) (k : ∀ tmps' : Array Value, (∀ i, Nat.beq i d = false → tmps'[i]? = tmps[i]?) → Rep okA w0 N ρ ((d, x) :: E) H tmps' w → wpListIn Fence.wide n P ops Q rest ⟨tmps', []⟩ w) :
    wpListIn Fence.wide n P ops Q (⟨some d, op, ty, pos, af, none⟩ :: rest) ⟨tmps, []⟩ w := by
  unfold Yl at h
  simp only [Bool.and_eq_true] at hd
  obtain ⟨y, hrun, hr⟩ := h okA w0 N ρ tmps w r
  refine wpListIn_plain rfl fun K' hK => ?_
  have := hrun w (rd.same_refl _ _ _) (some d) pos af none
  refine ⟨fun f _ => trivial, ?_⟩
  rw [Oper.semAt_plain _ _ _ (ndf_ne hd.2), this, Oper.uponIn_value, put_ds]
  exact hK _ _ (k _ (setOff _ _ _) (r.put (Nat.le_of_ble_eq_true hd.1) hr))
theorem callY_ {tmps : Array Value} {w : World} {Q : Exit → Act → World → Prop} {d i : Nat} {lp : Nat} {os : Array Operand} {ts : Array TypeId} {ty : TypeId} {pos : String} {af : Array Edge} {args T : Array Value} {fn : FuncId} {assign body : Code} {R : Ending → World → Prop}
    (hi : Act.eval ⟨tmps, []⟩ (.tmp i) = .func (.yield lp) #[] #[]) (ha : os.map (Act.eval ⟨tmps, []⟩) = args) (hy : (Instr.yield lp args).run P w = .ok (.round lp fn T assign body) w) (hR : RoundIn Fence.wide (n - 1) P lp fn T assign body w R)
    (hr : ∀ e w', R e w' → ∃ v, e = .returned v) (k : ∀ v w', R (.returned v) w' → wpListIn Fence.wide n P ops Q rest ⟨tmps.setIfInBounds d v, []⟩ w') :
    wpListIn Fence.wide n P ops Q (⟨some d, .call { callee := .value (.tmp i), args := os, argTypes := ts }, ty, pos, af, none⟩ :: rest) ⟨tmps, []⟩ w := by
  refine wpListIn_plain rfl fun K hK => ?_
  refine ⟨fun f _ => trivial, ?_⟩
  have hrun : (execOp (Act.eval ⟨tmps, []⟩) ⟨some d, .call { callee := .value (.tmp i), args := os, argTypes := ts }, ty, pos, af, none⟩).run P w = .ok (.round lp fn T assign body) w := by
    simp [execOp, resolve, Deferred.ofValue, hi, ha, invoke, hy]
  rw [Oper.semAt_plain _ _ _ (ndf_ne rfl), hrun, Oper.uponIn_round]
  refine ⟨fun h => (by cases h), hR.mono fun e w' h => ?_⟩
  obtain ⟨v, rfl⟩ := hr e w' h
  exact hK _ _ (k v w' h)
end
/-- exact values -/
def exPV : Value → PV
  | .agg a => .ag (a.toList.map PV.v)
  | v => .v v
theorem exPV_rel {w : World} {ok : Bool → Nat → Prop} : ∀ (z : Value), Rel w ok (exPV z) z := by
  intro z
  cases z
  case agg a => simp only [exPV, Rel]; exact ⟨a.toList, by simp, rels_exact a.toList⟩
  all_goals simp only [exPV, Rel]
theorem exacts_eq {w : World} {ok : Bool → Nat → Prop} : ∀ {zs ys : List Value}, Rels w ok (zs.map PV.v) ys → ys = zs
  | [], ys, h => by simpa [Rels] using h
  | z :: zs, ys, h => by
    simp only [List.map_cons, Rels, Rel] at h
    obtain ⟨y, us, rfl, rfl, h2⟩ := h
    rw [exacts_eq h2]
theorem exPVs_rel {w : World} {ok : Bool → Nat → Prop} : ∀ (zs : List Value), Rels w ok (zs.map exPV) zs
  | [] => by simp [Rels]
  | z :: zs => by simp only [List.map_cons, Rels]; exact ⟨z, zs, rfl, exPV_rel z, exPVs_rel zs⟩
/-- What a round keeps: the blocks of SB. -/
structure KpB (SB : Nat → Prop) (W W' : World) : Prop where
  os : W'.os = W.os
  tape : W'.tape = W.tape
  output : W'.output = W.output
  size : W.heap.size ≤ W'.heap.size
  same : ∀ b, b < W.heap.size → SB b → W'.heap[b]? = W.heap[b]?
theorem KpB.trans {SB : Nat → Prop} {A B C : World} (h : KpB SB A B) (k : KpB SB B C) : KpB SB A C :=
  ⟨k.os.trans h.os, k.tape.trans h.tape, k.output.trans h.output, Nat.le_trans h.size k.size, fun b hb hs => (k.same b (Nat.lt_of_lt_of_le hb h.size) hs).trans (h.same b hb hs)⟩
/-- The places from the last to k. -/
def preB (m k : Nat) : List (_root_.Fin m) := ((List.finRange m).drop k).reverse
theorem preB_top (m : Nat) : preB m m = [] := by simp [preB]
theorem preB_zero (m : Nat) : preB m 0 = (List.finRange m).reverse := by simp [preB]
theorem preB_step {m k : Nat} (h : k < m) : preB m k = preB m (k + 1) ++ [⟨k, h⟩] := by
  unfold preB
  rw [List.drop_eq_getElem_cons (by simpa using h), List.reverse_cons]
  congr 2
  simp
theorem preB_len {m k : Nat} : (preB m k).length = m - k := by simp [preB]
def lftB (a : Act) : Nat := match a.tmps[3]? with
  | some (Value.int _ i) => (i + 1).toNat
  | _ => 0
abbrev Yv (l : Nat) : PV := .v (.func (.yield l) #[] #[])
/-- The iterator: the elements from the last to the first, for every loop body that keeps the blocks of SB. -/
theorem back_stops (SB : Nat → Prop) (gB : Nat) (A : Option Addr) (cap : Nat) (ys : List Value) (w : World) (hys : ∀ z ∈ ys, ∃ zs, z = .agg zs ∧ zs.size = 2) (hc : ys.length ≤ cap) (hcm : cap ≤ maxLen) (hl : ys.length < lim)
    (hgB : SB gB ∧ gB < w.heap.size) (hcell : w.cell? ⟨gB, 0, none⟩ = some (.slice A ys.length cap))
    (hrow : 0 < ys.length → ∃ b o, A = some ⟨b, o, none⟩ ∧ SB b ∧ b < w.heap.size ∧ ∀ j x, (flat ys)[j]? = some x → w.cell? ⟨b, o + j, none⟩ = some x) :
    SeqStopsK Fence.wide 2 Tryz.prog 94 #[.pointer (some ⟨gB, 0, none⟩)] (fun x : _root_.Fin ys.length => #[Value.int .i64 (x.1 : Nat), ys[x.1]]) (KpB SB) (fun xs => xs = preB ys.length 0) (fun _ => True) ys.length w := by
  intro l J Jx W hW hJ hJx hY h0
  refine callsIn_of_wp Tryz.func94 rfl trivial ?_ rfl
  let okA : Acc := ⟨SB, fun _ => False, undef⟩
  have mkRep : ∀ (V : World) (tmps : Array Value) (x3 : TV), KpB SB W V → tmps[0]? = some (.func (.yield l) #[] #[]) → tmps[1]? = some (.pointer (some ⟨gB, 0, none⟩)) → (∃ y, tmps[3]? = some y ∧ RelT V (okF okA V.heap.size (fun _ => undef) [] V.heap.size) (fun _ => undef) x3 y) → 19 ≤ tmps.size →
      Rep okA V 19 (fun _ => undef) [(0, .p (Yv l)), (1, .rc (.ss false 2 (ys.map exPV))), (3, x3)] [] tmps V := by
    intro V tmps x3 hV t0 t1 t3 tsz
    refine ⟨Frm.refl _ _ _, fun h m b hm => by simp [hk] at hm, fun h m hm => by simp [hk] at hm, fun h h' m m' b hm => by simp [hk] at hm, fun i x hx => ?_, tsz, rfl, by decide⟩
    simp only [lk] at hx
    cases h1 : Nat.beq i 0 with
    | true =>
      rw [h1] at hx
      simp only [cond_true, Option.some.injEq] at hx
      subst hx
      obtain rfl : i = 0 := Nat.eq_of_beq_eq_true h1
      exact ⟨_, t0, by simp [RelT, Rel]⟩
    | false =>
      rw [h1] at hx
      cases h2 : Nat.beq i 1 with
      | true =>
        rw [h2] at hx
        simp only [cond_true, cond_false, Option.some.injEq] at hx
        subst hx
        obtain rfl : i = 1 := Nat.eq_of_beq_eq_true h2
        refine ⟨_, t1, ?_⟩
        simp only [RelT]
        have hgW : gB < W.heap.size := Nat.lt_of_lt_of_le hgB.2 hW.size
        refine ⟨gB, 0, .slice A ys.length cap, rfl, ⟨Nat.lt_of_lt_of_le hgW hV.size, fun h m hm => by simp [hk] at hm, .inr ⟨rfl, hgB.1⟩⟩, ?_, fun j u hj => ?_⟩
        · simp only [Rel]
          refine ⟨A, cap, ys, by simp, by simpa using hc, hcm, by simpa using hl, ?_, fun z hz => ?_, fun hp => ?_⟩
          · exact exPVs_rel ys
          · obtain ⟨zs, rfl, h⟩ := hys z hz
            simpa [Value.cells] using h
          · obtain ⟨b, o, hA, hsb, hb, hx⟩ := hrow (by simpa using hp)
            have hbW : b < W.heap.size := Nat.lt_of_lt_of_le hb hW.size
            exact ⟨b, o, hA, ⟨⟨Nat.lt_of_lt_of_le hbW hV.size, fun h m hm => by simp [hk] at hm, .inr ⟨rfl, hsb⟩⟩, fun h => by cases h⟩, fun j x hj => (World.cell?_of_block (a := ⟨b, o + j, none⟩) (hV.same b hbW hsb)).trans ((hW.cell (p := ⟨b, o + j, none⟩) hb).trans (hx j x hj))⟩
        · cases j with
          | zero =>
            simp [Value.cells] at hj
            subst hj
            exact (World.cell?_of_block (a := ⟨gB, 0, none⟩) (hV.same gB hgW hgB.1)).trans ((hW.cell (p := ⟨gB, 0, none⟩) hgB.2).trans hcell)
          | succ j => simp [Value.cells] at hj
      | false =>
        rw [h2] at hx
        cases h3 : Nat.beq i 3 with
        | true =>
          rw [h3] at hx
          simp only [cond_true, cond_false, Option.some.injEq] at hx
          subst hx
          obtain rfl : i = 3 := Nat.eq_of_beq_eq_true h3
          exact t3
        | false => rw [h3] at hx; simp at hx
  have mkRep0 : ∀ (V : World) (tmps : Array Value), 19 ≤ tmps.size → Rep okA V 19 (fun _ => undef) [] [] tmps V := fun V tmps tsz =>
    ⟨Frm.refl _ _ _, fun h m b hm => by simp [hk] at hm, fun h m hm => by simp [hk] at hm, fun h h' m m' b hm => by simp [hk] at hm, fun i x hx => by simp [lk] at hx, tsz, rfl, by decide⟩
  have hlen : (ys.map exPV).length = ys.length := by simp
  have hlim : ys.length < 281474976710656 := hl
  have kp0 : KpB SB W W := ⟨rfl, rfl, rfl, Nat.le_refl _, fun _ _ _ => rfl⟩
  simp only [Tryz.ntmps94, List.size_toArray, List.length_cons, List.length_nil, Nat.reduceAdd, Nat.reduceSub, Array.replicate_succ, Array.replicate_zero, List.push_toArray, List.append_toArray, List.nil_append, List.cons_append]
  refine wpIn_seq (wpIn_region_lit ?_)
  have r := mkRep W #[.func (.yield l) #[] #[], .pointer (some ⟨gB, 0, none⟩), undef, undef, undef, undef, undef, undef, undef, undef, undef, undef, undef, undef, undef, undef, undef, undef, undef] .junk kp0 rfl rfl ⟨_, rfl, by simp only [RelT]⟩ (Nat.le_refl _)
  have t0 : (#[.func (.yield l) #[] #[], .pointer (some ⟨gB, 0, none⟩), undef, undef, undef, undef, undef, undef, undef, undef, undef, undef, undef, undef, undef, undef, undef, undef, undef] : Array Value)[0]? = some (.func (.yield l) #[] #[]) := rfl
  have t1 : (#[.func (.yield l) #[] #[], .pointer (some ⟨gB, 0, none⟩), undef, undef, undef, undef, undef, undef, undef, undef, undef, undef, undef, undef, undef, undef, undef, undef, undef] : Array Value)[1]? = some (.pointer (some ⟨gB, 0, none⟩)) := rfl
  have t3 : (#[.func (.yield l) #[] #[], .pointer (some ⟨gB, 0, none⟩), undef, undef, undef, undef, undef, undef, undef, undef, undef, undef, undef, undef, undef, undef, undef, undef, undef] : Array Value)[3]? = some undef := rfl
  refine stepYR r (y_load_rc1 rfl rfl) rfl fun T q r => ?_
  replace t0 := (q 0 rfl).trans t0
  replace t1 := (q 1 rfl).trans t1
  replace t3 := (q 3 rfl).trans t3
  refine stepYR r (y_len_ss rfl) rfl fun T q r => ?_
  replace t0 := (q 0 rfl).trans t0
  replace t1 := (q 1 rfl).trans t1
  replace t3 := (q 3 rfl).trans t3
  refine stepYR r (y_binn rfl rfl rfl (by rw [hlen]; simp only [InK, loK, hiK]; omega)) rfl fun T q r => ?_
  replace t0 := (q 0 rfl).trans t0
  replace t1 := (q 1 rfl).trans t1
  replace t3 := (q 3 rfl).trans t3
  refine stepYR r (y_assign rfl) rfl fun T q r => ?_
  replace t0 := (q 0 rfl).trans t0
  replace t1 := (q 1 rfl).trans t1
  clear t3
  obtain ⟨y3, t3, e3⟩ := r.env 3 _ rfl
  simp only [RelT, Rel] at e3
  subst e3
  refine wpListIn_nil ?_
  simp only [Exit.then]
  refine wpIn_block ?_
  refine wpIn_loop (fun a w' => ∃ k : Nat, k ≤ ys.length ∧ a.defers = [] ∧ a.tmps[0]? = some (.func (.yield l) #[] #[]) ∧ a.tmps[1]? = some (.pointer (some ⟨gB, 0, none⟩)) ∧ a.tmps[3]? = some (.int .i64 ((k : Int) - 1)) ∧ 19 ≤ a.tmps.size ∧ KpB SB W w' ∧ J (preB ys.length k) w')
    (fun a _ => lftB a) ⟨ys.length, Nat.le_refl _, rfl, t0, t1, by rw [t3, hlen], r.size, kp0, by rw [preB_top]; exact h0⟩ ?_
  rintro ⟨tmps, ds⟩ V ⟨k, hk, hd, t0, t1, t3, tsz, hV, hj⟩
  simp only at hd t0 t1 t3 tsz
  subst hd
  by_cases h1 : k = 0
  · subst h1
    have r := mkRep V tmps (.p (I (-1))) hV t0 t1 ⟨_, t3, by simp [RelT, Rel]⟩ tsz
    refine wpIn_seq (wpIn_seq (wpIn_region_lit ?_))
    refine stepYR r (y_move rfl) rfl fun T q r => ?_
    replace t0 := (q 0 rfl).trans t0
    replace t1 := (q 1 rfl).trans t1
    replace t3 := (q 3 rfl).trans t3
    refine stepYR r (y_cmpF rfl rfl rfl (by omega)) rfl fun T q r => ?_
    replace t0 := (q 0 rfl).trans t0
    replace t1 := (q 1 rfl).trans t1
    replace t3 := (q 3 rfl).trans t3
    refine wpListIn_nil (wpIn_cond_false (ev_v r rfl) (wpIn_exit ?_))
    simp only [Exit.then, Exit.inBlock, if_true]
    exact ⟨rfl, _, results_none rfl _ _ _, ⟨_, rfl⟩, .inl ⟨_, rfl, hj⟩⟩
  · obtain ⟨j, rfl⟩ : ∃ j, k = j + 1 := ⟨k - 1, by omega⟩
    rw [show (((j + 1 : Nat) : Int) - 1) = (j : Int) by omega] at t3
    have hmu : lftB ⟨tmps, []⟩ = j + 1 := by unfold lftB; dsimp only; rw [t3]; show ((j : Int) + 1).toNat = j + 1; omega
    rw [hmu]
    have r := mkRep V tmps (.p (I (j : Int))) hV t0 t1 ⟨_, t3, by simp [RelT, Rel]⟩ tsz
    have hjl : j < ys.length := by omega
    obtain ⟨zs, hz, hz2⟩ := hys ys[j] (List.getElem_mem hjl)
    have hrd : rdP (ys.map exPV) (j : Int) = .ag (zs.toList.map PV.v) := by
      unfold rdP
      rw [Int.toNat_natCast, List.getD_eq_getElem?_getD, List.getElem?_map, List.getElem?_eq_getElem hjl, hz]
      rfl
    obtain ⟨fn, T, assign, body, hy, hR⟩ := hY _ ⟨j, hjl⟩ V hj (by rw [preB_len]; omega)
    dsimp only at hy
    refine wpIn_seq (wpIn_seq (wpIn_region_lit ?_))
    refine stepYR r (y_move rfl) rfl fun T q r => ?_
    replace t0 := (q 0 rfl).trans t0
    replace t1 := (q 1 rfl).trans t1
    replace t3 := (q 3 rfl).trans t3
    refine stepYR r (y_cmpT rfl rfl rfl (by omega)) rfl fun T q r => ?_
    replace t0 := (q 0 rfl).trans t0
    replace t1 := (q 1 rfl).trans t1
    replace t3 := (q 3 rfl).trans t3
    refine wpListIn_nil (wpIn_cond_true (ev_v r rfl) (wpIn_skip ?_))
    simp only [Exit.then]
    refine wpIn_seq (wpIn_block (wpIn_seq (wpIn_region_lit ?_)))
    refine stepYR r (y_move rfl) rfl fun T q r => ?_
    replace t0 := (q 0 rfl).trans t0
    replace t1 := (q 1 rfl).trans t1
    replace t3 := (q 3 rfl).trans t3
    refine stepYR r (y_move rfl) rfl fun T q r => ?_
    replace t0 := (q 0 rfl).trans t0
    replace t1 := (q 1 rfl).trans t1
    replace t3 := (q 3 rfl).trans t3
    refine stepYR r (y_load_rc1 rfl rfl) rfl fun T q r => ?_
    replace t0 := (q 0 rfl).trans t0
    replace t1 := (q 1 rfl).trans t1
    replace t3 := (q 3 rfl).trans t3
    refine stepYR r (y_move rfl) rfl fun T q r => ?_
    replace t0 := (q 0 rfl).trans t0
    replace t1 := (q 1 rfl).trans t1
    replace t3 := (q 3 rfl).trans t3
    refine stepYR r (y_index_ss rfl rfl (by omega) (by rw [hlen]; omega)) rfl fun T q r => ?_
    replace t0 := (q 0 rfl).trans t0
    replace t1 := (q 1 rfl).trans t1
    replace t3 := (q 3 rfl).trans t3
    rw [hrd] at r
    refine stepYR r (y_load_rcA rfl (by simpa using hz2)) rfl fun T q r => ?_
    replace t0 := (q 0 rfl).trans t0
    replace t1 := (q 1 rfl).trans t1
    replace t3 := (q 3 rfl).trans t3
    have v11 := ev_v r (o := .tmp 11) rfl
    have v12 := ev_v r (o := .tmp 12) rfl
    have v16 := ev_rel r (o := .tmp 16) rfl
    simp only [RelT, Rel] at v16
    obtain ⟨us, v16, hus⟩ := v16
    rw [exacts_eq hus, show zs.toList.toArray = zs by simp, ← hz] at v16
    refine callY_ (R := fun e W' => (e = .returned (.bool true) ∧ J (preB ys.length (j + 1) ++ [⟨j, hjl⟩]) W' ∧ KpB SB V W') ∨ (e = .returned (.bool false) ∧ Jx (preB ys.length (j + 1) ++ [⟨j, hjl⟩]) W')) v11 (by simp only [List.map_toArray, List.map_cons, List.map_nil]; rw [v12, v16]) hy hR (fun e W' h => by rcases h with h | h; exact ⟨_, h.1⟩; exact ⟨_, h.1⟩) ?_
    rintro v W3 (⟨he, hJ3, hk3⟩ | ⟨he, hJx3⟩)
    · simp only [Ending.returned.injEq] at he
      subst he
      have r3 := (mkRep W3 _ (.p (I (j : Int))) (hV.trans hk3) t0 t1 ⟨_, t3, by simp [RelT, Rel]⟩ r.size).put (d := 17) (by omega) (x := .p (Bo true)) (y := .bool true) (by simp [RelT, Rel])
      replace t0 := (setOff _ 17 (.bool true) 0 rfl).trans t0
      replace t1 := (setOff _ 17 (.bool true) 1 rfl).trans t1
      replace t3 := (setOff _ 17 (.bool true) 3 rfl).trans t3
      refine stepYR r3 (y_not rfl) rfl fun T q r => ?_
      replace t0 := (q 0 rfl).trans t0
      replace t1 := (q 1 rfl).trans t1
      replace t3 := (q 3 rfl).trans t3
      refine wpListIn_nil (wpIn_cond_false (ev_v r rfl) (wpIn_skip ?_))
      simp only [Exit.then, Exit.inBlock]
      refine wpIn_region_lit ?_
      refine stepYR r (y_move rfl) rfl fun T q r => ?_
      replace t0 := (q 0 rfl).trans t0
      replace t1 := (q 1 rfl).trans t1
      replace t3 := (q 3 rfl).trans t3
      refine stepYR r (y_binn rfl rfl rfl (by simp only [InK, loK, hiK]; omega)) rfl fun T q r => ?_
      replace t0 := (q 0 rfl).trans t0
      replace t1 := (q 1 rfl).trans t1
      replace t3 := (q 3 rfl).trans t3
      refine stepYR r (y_assign rfl) rfl fun T q r => ?_
      replace t0 := (q 0 rfl).trans t0
      replace t1 := (q 1 rfl).trans t1
      obtain ⟨y3, t3', e3⟩ := r.env 3 _ rfl
      simp only [RelT, Rel] at e3
      subst e3
      refine wpListIn_nil ⟨⟨j, by omega, rfl, t0, t1, t3', r.size, hV.trans hk3, by rw [preB_step hjl]; exact hJ3⟩, ?_⟩
      unfold lftB
      dsimp only
      rw [t3']
      show ((j : Int) - 1 + 1).toNat < j + 1
      omega
    · simp only [Ending.returned.injEq] at he
      subst he
      have r3 := (mkRep0 W3 _ r.size).put (d := 17) (by omega) (x := .p (Bo false)) (y := .bool false) (by simp [RelT, Rel])
      refine stepYR r3 (y_not rfl) rfl fun T q r => ?_
      refine wpListIn_nil (wpIn_cond_true (ev_v r rfl) (wpIn_ret ?_))
      simp only [Exit.then, Exit.inBlock]
      exact ⟨rfl, _, results_none rfl _ _ _, ⟨_, rfl⟩, .inr ⟨_, trivial, hJx3⟩⟩
end Go.Av

set_option linter.unusedVariables false
set_option linter.unusedSimpArgs false
/-! A function whose body ends with a mark among its deferred calls. -/
namespace Go.Av
open Go Go.RowKit
section
variable {P : Program} {N : Nat} {E : Env} {H : Hp} {fn : Func} {r : PV}
def RetM (okA : Acc) (w0 : World) (r : PV) : Ending → World → Prop := fun e w' => ∃ y, e = .returned y ∧ Rel w' (fun f b => b < w'.heap.size ∧ (w0.heap.size ≤ b ∨ (f = false ∧ okA.rd b))) r y ∧ Below w0.heap.size w0 w'
def TrM (P : Program) (N : Nat) (c : Code) (E : Env) (H : Hp) (fn : Func) (r : PV) : Prop :=
  ∀ okA w0 ρ tmps w, (∀ b, ¬ okA.wr b) → Rep okA w0 N ρ E H tmps w → c.wp P (bodyPostM Fence.wide 3 P fn (RetM okA w0 r)) ⟨tmps, []⟩ w
theorem mcut_ {x y : Code} (E1 : Env) (H1 : Hp) (h1 : Tr P N x E H (subQ E1 H1)) (h2 : TrM P N y E1 H1 fn r) : TrM P N (.seq x y) E H fn r := by
  unfold Tr at h1
  intro okA w0 ρ tmps w hw rp
  refine wp_seq (wp_mono (h1 okA w0 ρ tmps w rp) fun e a w' ⟨_, _, hd, ρ', E', H', r', q⟩ => ?_)
  obtain ⟨rfl, q1, q2⟩ := q
  simp only [Exit.then]
  obtain ⟨ts, dfs⟩ := a
  simp only at hd
  subst hd
  exact h2 okA w0 ρ' ts w' hw ((r'.subH q2).sub q1)
theorem conM_of {f : FuncId} {c : Code} {args : List PV} (hf : P.funcs[f]? = some fn) (hb : fn.body = some c) (hN : fn.ntmps = N) (ht : noTs args = true) (ha : (Nat.ble args.length N && Nat.ble N 1000000) = true)
    (h : TrM P N c (argsE 0 args) [] fn r) : Con P f args r := by
  unfold Con
  intro okA w vs hvs
  refine (callsIn_wide (n := 3)).1 (callsIn_of_wp_marks hf hb trivial (wpIn_wide.2 ?_) rfl)
  have hlen : vs.length = args.length := hvs.length
  rw [Bool.and_eq_true] at ha
  have hle : args.length ≤ N := Nat.le_of_ble_eq_true ha.1
  have hsm : N ≤ 1000000 := Nat.le_of_ble_eq_true ha.2
  have r0 : Rep ⟨okA, fun _ => False, undef⟩ w N (fun _ => undef) (argsE 0 args) [] (vs.toArray ++ Array.replicate (fn.ntmps - vs.toArray.size) undef) w := by
    refine ⟨Frm.refl _ _ _, fun h m b hm => by simp [hk] at hm, fun h m hm => by simp [hk] at hm, fun h h' m m' b hm => by simp [hk] at hm, fun i x hx => ?_, by simp; omega, rfl, hsm⟩
    obtain ⟨_, z, hz, rfl⟩ := argsE_lk hx
    simp only [Nat.sub_zero] at hz
    obtain ⟨y, hy, hr⟩ := hvs.get hz
    refine ⟨y, ?_, ?_⟩
    · have hi : i < vs.length := by
        rcases Nat.lt_or_ge i vs.length with h | h
        · exact h
        · rw [List.getElem?_eq_none h] at hy; cases hy
      rw [Array.getElem?_append_left (by simpa using hi)]
      simpa using hy
    · simp only [RelT]
      have hzt : noT z = true := by
        have : ∀ {xs : List PV}, noTs xs = true → ∀ {i : Nat} {z : PV}, xs[i]? = some z → noT z = true := by
          intro xs
          induction xs with
          | nil => intro _ i z h; simp at h
          | cons x xs ih =>
            intro h i z hz
            simp only [noTs, Bool.and_eq_true] at h
            cases i with
            | zero => simp at hz; subst hz; exact h.1
            | succ i => exact ih h.2 (by simpa using hz)
        exact this ht hz
      exact Rel.untag (fun b hb => ⟨hb.1, fun h m hm => by simp [hk] at hm, .inr ⟨rfl, hb.2⟩⟩) z y hzt hr
  refine wp_mono (h ⟨okA, fun _ => False, undef⟩ w _ _ w (fun _ h => h) r0) fun e a w' hq => ?_
  exact hq
theorem fin_M {rs : List ResultVar} {okA : Acc} {w0 : World} {ρ : Nat → Value} {w : World} {tmps : Array Value} {D : Nat} {xs : List PV} (hrs : fn.results = rs.toArray) (rp : Rep okA w0 N ρ E H tmps w) (hb : boxesB H = true) (hres : ResL P E H rs xs) (hle : Le (tup xs) r)
    (hD : w.heap[D]? = some (.deferred (some []))) (hwD : w0.heap.size ≤ D) (hw : ∀ b, ¬ okA.wr b) : bodyPostM Fence.wide 3 P fn (RetM okA w0 r) .ret ⟨tmps, [{ target := .collected D, args := #[] }]⟩ w := by
  have rp2 := rp.turn hb (grownBy_putObj' w D (.deferred none)) (fun k e => by cases e; exact ⟨hwD, _, hD, rfl⟩)
  refine ⟨by simp, .inl ⟨D, _, rfl, run_takeDeferred hD, ?_⟩⟩
  obtain ⟨v, hv, hr⟩ := fin_run (a := ⟨tmps, []⟩) (en := .ret) hrs rp2 ⟨.inr rfl, xs, hres, hle⟩
  exact ⟨v, hv, v, rfl, hr, ⟨rp2.below.os, rp2.below.tape, rp2.below.output, rp2.below.size, fun k hk => rp2.below.block k hk (hw k)⟩⟩
/-- Other temporaries. -/
theorem Rep.tm {okA : Acc} {w0 : World} {ρ : Nat → Value} {w : World} {tmps tmps' : Array Value} {E' : Env} (rp : Rep okA w0 N ρ E H tmps w) (h : ∀ i x, lk i E' = some x → ∃ y, tmps'[i]? = some y ∧ RelT w (okF okA w0.heap.size ρ H w.heap.size) ρ x y) (hs : N ≤ tmps'.size) : Rep okA w0 N ρ E' H tmps' w :=
  ⟨rp.below, rp.own, rp.heap, rp.disj, h, hs, rp.lent, rp.small⟩
/-- Other names for the same handles' values. -/
theorem Rep.rho {okA : Acc} {w0 : World} {ρ ρ' : Nat → Value} {w : World} {tmps : Array Value} (rp : Rep okA w0 N ρ' E H tmps w) (h : ∀ k m, hk k H = some m → ρ' k = ρ k) (hE : ∀ i x, lk i E = some x → ∀ k, x.says k = true → ρ' k = ρ k) (hl : ρ 1000000 = okA.row) : Rep okA w0 N ρ E H tmps w := by
  have hok : ∀ f b, okF okA w0.heap.size ρ' H w.heap.size f b → okF okA w0.heap.size ρ H w.heap.size f b := fun f b hb => ⟨hb.1, fun k m hm => by rw [← h k m hm]; exact hb.2.1 k m hm, hb.2.2⟩
  refine ⟨rp.below, fun k m b hm hb => rp.own k m b hm (by rw [h k m hm]; exact hb), fun k m hm => ?_, fun k k' m m' b e1 e2 hne hb => ?_, fun i x hx => ?_, rp.size, hl, rp.small⟩
  · rw [← h k m hm]
    exact (rp.heap k m hm).mono hok (fun _ _ _ => rfl) (fun _ _ => rfl)
  · rw [← h k' m' e2]
    exact rp.disj k k' m m' b e1 e2 hne (by rw [h k m e1]; exact hb)
  · obtain ⟨y, hy, hr⟩ := rp.env i x hx
    exact ⟨y, hy, hr.mono hok (fun _ _ _ => rfl) (fun k hk => (hE i x hx k hk).symm) (fun _ h h' => h.old h')⟩
theorem ptr_same {okA okA' : Acc} {w0 w0' : World} {ρ ρ' : Nat → Value} {w w' : World} {tmps tmps' : Array Value} {E' : Env} {H' : Hp} {i h : Nat} (r1 : Rep okA w0 N ρ E H tmps w) (r2 : Rep okA' w0' N ρ' E' H' tmps' w') (h1 : lk i E = some (.ptr h 0)) (h2 : lk i E' = some (.ptr h 0)) (ht : tmps'[i]? = tmps[i]?) : ρ' h = ρ h := by
  obtain ⟨y, hy, e⟩ := r1.env i _ h1
  obtain ⟨y', hy', e'⟩ := r2.env i _ h2
  rw [ht, hy] at hy'
  cases hy'
  simp only [RelT] at e e'
  obtain ⟨g, e1, e2⟩ := e
  obtain ⟨g', e3, e4⟩ := e'
  rw [e2] at e4
  simp only [Value.pointer.injEq, Option.some.injEq, Addr.mk.injEq, and_true] at e4
  rw [e1, e3, e4]
/-- A box as memory that is only read. -/
theorem Rep.rc_of {okA : Acc} {w0 : World} {ρ : Nat → Value} {w : World} {tmps : Array Value} {H' : Hp} {i h : Nat} {cs : List PV} (rp : Rep okA w0 N ρ E H tmps w) (hi : lk i E = some (.ptr h 0)) (hh : hk h H = some (.bx cs)) (hw : ∀ b, ¬ okA.wr b) (hH : ∀ k m, hk k H' = some m → k ≠ h ∧ ∃ m', hk k H = some m') :
    ∃ y, tmps[i]? = some y ∧ RelT w (okF okA w0.heap.size ρ H' w.heap.size) ρ (.rc (.ag cs)) y := by
  obtain ⟨y, hy, e⟩ := rp.env i _ hi
  simp only [RelT] at e
  obtain ⟨g, e1, e2⟩ := e
  have hb := rp.heap h _ hh
  simp only [RelB] at hb
  obtain ⟨g', t, ys, e3, _, hg, hr, h1⟩ := hb
  rw [e1] at e3
  simp only [Value.pointer.injEq, Option.some.injEq, Addr.mk.injEq, and_true] at e3
  subst e3
  have hok : ∀ f b, okF okA w0.heap.size ρ H w.heap.size f b → okF okA w0.heap.size ρ H' w.heap.size f b := fun f b hb => ⟨hb.1, fun k m hm => (hH k m hm).2.elim fun m' hm' => hb.2.1 k m' hm', hb.2.2⟩
  refine ⟨y, hy, ?_⟩
  simp only [RelT]
  have hbk : blk (ρ h) = some g := by rw [e1]; rfl
  refine ⟨g, 0, .agg ys.toArray, e2, ⟨(Array.getElem?_eq_some_iff.1 hg).1, fun k m hm => ?_, ?_⟩, ?_, fun j u hj => ?_⟩
  · obtain ⟨hne, m', hm'⟩ := hH k m hm
    exact fun e => rp.disj k h m' _ g hm' hh hne e hbk
  · rcases rp.own h _ g hh hbk with h3 | ⟨_, h3⟩
    · exact .inl h3
    · exact absurd h3 (hw g)
  · simp only [Rel]
    exact ⟨ys, rfl, Rels.mono hok (fun _ _ _ => rfl) _ _ hr⟩
  · simp only [Value.cells] at hj
    rw [Nat.zero_add, cell_of_row w g j _ _ _ hg]
    simpa using hj
/-- A nil slice is told as a row of other elements of the call's own. -/
theorem nil_Cs {c : Code} {Q : Exit → Env → Hp → Prop} {i : Nat} (e : TypeId) (sz : Nat) (hE : lk i E = some (.p (.v (.slice none 0 0)))) (hf : frE i E = true) (hN : Nat.blt i N = true) (kk : Tr P N c ((i, .vec i) :: E) ((i, .vs e sz []) :: H) Q) : Tr P N c E H Q := by
  unfold Tr at kk ⊢
  intro okA w0 ρ tmps w r
  have hr := r.row_new (w' := w) (d := i) (m := .vs e sz []) (y := .slice none 0 0) ⟨rfl, rfl, rfl, Nat.le_refl _, fun _ _ _ => rfl⟩ (fun b hb => by simp [blk] at hb) hf (pH_lt r hN) (fun _ => by
    simp only [RelB, List.length_nil]
    exact ⟨[], by simp only [Rels], by simp, by simpa [flat] using World.ownsRow_nil w _ e sz, by simp [flat], by simp [lim]⟩)
  exact kk okA w0 _ tmps w (hr.set_env hE (fun y hy => by simp only [RelT, Rel] at hy ⊢; rw [upd_same]; exact hy))
theorem mcutK_ {x y : Code} (K : Env → Hp → Prop) (h1 : Tr P N x E H (fun e E' H' => e = .normal ∧ K E' H')) (h2 : ∀ E' H', K E' H' → TrM P N y E' H' fn r) : TrM P N (.seq x y) E H fn r := by
  unfold Tr at h1
  intro okA w0 ρ tmps w hw rp
  refine wp_seq (wp_mono (h1 okA w0 ρ tmps w rp) fun e a w' ⟨_, _, hd, ρ', E', H', r', q⟩ => ?_)
  obtain ⟨rfl, q1⟩ := q
  simp only [Exit.then]
  obtain ⟨ts, dfs⟩ := a
  simp only at hd
  subst hd
  exact h2 E' H' q1 okA w0 ρ' ts w' hw r'
theorem TrM.sub {c : Code} {E' : Env} {H' : Hp} (h : TrM P N c E' H' fn r) (hE : ∀ i x, lk i E' = some x → lk i E = some x) (hH : ∀ i m, hk i H' = some m → hk i H = some m) : TrM P N c E H fn r :=
  fun okA w0 ρ tmps w hw rp => h okA w0 ρ tmps w hw ((rp.subH hH).sub hE)
/-- Less is told of a box. -/
theorem Rep.bxle {okA : Acc} {w0 : World} {ρ : Nat → Value} {w : World} {tmps : Array Value} {h : Nat} {cs cs' : List PV} (rp : Rep okA w0 N ρ E H tmps w) (hh : hk h H = some (.bx cs)) (hl : Les cs cs') : Rep okA w0 N ρ E ((h, .bx cs') :: H) tmps w := by
  have hkk : ∀ k m, hk k ((h, .bx cs') :: H) = some m → ∃ m', hk k H = some m' := fun k m hm => by
    rcases hk_cons hm with ⟨rfl, _⟩ | ⟨_, hm'⟩
    · exact ⟨_, hh⟩
    · exact ⟨_, hm'⟩
  have hok : ∀ f b, okF okA w0.heap.size ρ H w.heap.size f b → okF okA w0.heap.size ρ ((h, .bx cs') :: H) w.heap.size f b := fun f b hb => ⟨hb.1, fun k m hm => (hkk k m hm).elim fun m' hm' => hb.2.1 k m' hm', hb.2.2⟩
  refine ⟨rp.below, fun k m b hm hb => (hkk k m hm).elim fun m' hm' => rp.own k m' b hm' hb, fun k m hm => ?_, fun k k' m m' b e1 e2 hne hb => ?_, fun i x hx => ?_, rp.size, rp.lent, rp.small⟩
  · rcases hk_cons hm with ⟨rfl, rfl⟩ | ⟨_, hm'⟩
    · have hb := rp.heap _ _ hh
      simp only [RelB] at hb ⊢
      obtain ⟨g, t, ys, e, hB, hg, hr, h1⟩ := hb
      exact ⟨g, t, ys, e, hB, hg, Rels.mono hok (fun _ _ _ => rfl) _ _ (Les.rel (fun b hb => okF.tag hb) hl _ hr), h1⟩
    · exact (rp.heap k m hm').mono hok (fun _ _ _ => rfl) (fun _ _ => rfl)
  · obtain ⟨a, ha⟩ := hkk _ _ e1
    obtain ⟨a', ha'⟩ := hkk _ _ e2
    exact rp.disj k k' a a' b ha ha' hne hb
  · obtain ⟨y, hy, hr⟩ := rp.env i x hx
    exact ⟨y, hy, hr.mono hok (fun _ _ _ => rfl) (fun _ _ => rfl) (fun _ h h' => h.old h')⟩
theorem bxle_L {ops : Array Oper} {rest : List Oper} {Q : Exit → Env → Hp → Prop} {h : Nat} {cs : List PV} (cs' : List PV) (hh : hk h H = some (.bx cs)) (hl : Les cs cs') (kk : TrL P N ops rest E ((h, .bx cs') :: H) Q) : TrL P N ops rest E H Q := by
  unfold TrL at kk ⊢
  intro okA w0 ρ tmps w r
  exact kk okA w0 _ tmps w (r.bxle hh hl)
end
end Go.Av

set_option maxHeartbeats 4000000
set_option maxRecDepth 100000
set_option linter.unusedVariables false
set_option linter.unusedSimpArgs false
/-! slices.Backward over numbers with a sign -/
namespace Go.Av
open Go Go.RowKit Go.Proofs
theorem backward_in (a : Option Addr) (len cap : Nat) (w : World) :
    CallsIn Fence.wide 3 Tryz.prog 68 #[.slice a len cap] w fun e w' => e = .returned (.func (.func 94) #[] #[.pointer (some ⟨w.heap.size, 0, none⟩)]) ∧ w' = w.alloc (.cells #[.slice a len cap] 77) := by
  refine callsIn_of_wp Tryz.func68 rfl trivial ?_ rfl
  simp only [Tryz.ntmps68, List.size_toArray, List.length_cons, List.length_nil, Nat.reduceAdd, Nat.reduceSub, Array.replicate_succ, Array.replicate_zero, List.push_toArray, List.append_toArray, List.nil_append, List.cons_append]
  gi_wp2
  go_ret
  exact ⟨rfl, rfl⟩
end Go.Av

set_option linter.unusedVariables false
set_option linter.unusedSimpArgs false
/-! A call, and a range over slices.Backward, behind which a mark stands. -/
namespace Go.Av
open Go Go.RowKit
section
variable {n : Nat} {P : Program} {ops : Array Oper} {rest : List Oper}
theorem callX_ {tmps : Array Value} {w : World} {Q : Exit → Act → World → Prop} {d : Nat} {f : FuncId} {fn : Func} {os : Array Operand} {ts : Array TypeId} {ty : TypeId} {pos : String} {af : Array Edge} {args : Array Value} {R : Ending → World → Prop}
    (hf : P.funcs[f]? = some fn) (hn : (fn.name == "runtime.NumGoroutine") = false) (hb : fn.body.isNone = false)
    (ha : os.map (Act.eval ⟨tmps, []⟩) = args) (hc : CallsIn Fence.wide (n - 1) P f args w R)
    (hr : ∀ e w', R e w' → ∃ v, e = .returned v) (k : ∀ v w', R (.returned v) w' → wpListIn Fence.wide n P ops Q rest ⟨tmps.setIfInBounds d v, []⟩ w') :
    wpListIn Fence.wide n P ops Q (⟨some d, .call { callee := .value (.func f), args := os, argTypes := ts }, ty, pos, af, none⟩ :: rest) ⟨tmps, []⟩ w := by
  refine wpListIn_plain rfl fun K hK => ?_
  refine ⟨fun f _ => trivial, ?_⟩
  have hrun : (execOp (Act.eval ⟨tmps, []⟩) ⟨some d, .call { callee := .value (.func f), args := os, argTypes := ts }, ty, pos, af, none⟩).run P w = .ok (.enter f args) w := by
    have hn' : ¬ fn.name = "runtime.NumGoroutine" := by simpa using hn
    have hb' : ¬ fn.body = none := by intro h; rw [h] at hb; simp at hb
    simp [execOp, resolve, Deferred.ofValue, Act.eval, invoke, callFunc, hf, hn', hb', ha]
  rw [Oper.semAt_plain _ _ _ (ndf_ne rfl), hrun, Oper.uponIn_enter]
  refine ⟨fun h => (by cases h), hc.mono fun e w' h => ?_⟩
  obtain ⟨v, rfl⟩ := hr e w' h
  exact hK _ _ (k v w' h)
end
theorem enters' {P : Program} {f : FuncId} {fn : Func} (hf : P.funcs[f]? = some fn) (hn : (fn.name == "runtime.NumGoroutine") = false) (hb : fn.body.isNone = false) : ∀ (args : Array Value) (w : World), (callFunc f args).run P w = .ok (.enter f args) w := by
  intro args w
  have hn' : ¬ fn.name = "runtime.NumGoroutine" := by simpa using hn
  have hb' : ¬ fn.body = none := by intro h; rw [h] at hb; simp at hb
  simp [callFunc, hf, hn', hb']
theorem TrC.use {l : Option Nat} {n : Nat} {ds : List Deferred} {kp : List Nat} {P : Program} {N : Nat} {c : Code} {E : Env} {H : Hp} (K : Env → Hp → Prop) {okA : Acc} {w0 : World} {ρ : Nat → Value} {tmps : Array Value} {w : World} {S : Nat → Prop} {W0 : World} {Q : Exit → Act → World → Prop}
    (r : Rep okA w0 N ρ E H tmps w) (t : Tk S W0 H ρ w) (h : TrC l n ds kp P N c E H K) (e : EndF N ds kp okA w0 tmps S W0 K Q) : c.wpIn (wideR l) n P Q ⟨tmps, ds⟩ w := h okA w0 ρ tmps w S W0 Q r t e
theorem wpIn_tmps {F : Fence} {n : Nat} {P : Program} {c : Code} {Q : Exit → Act → World → Prop} {T T' : Array Value} {ds : List Deferred} {w : World} (h : c.wpIn F n P Q ⟨T', ds⟩ w) (e : T = T') : c.wpIn F n P Q ⟨T, ds⟩ w := e ▸ h
theorem uniq_li {w : World} {ok ok' : Bool → Nat → Prop} {f f' : Bool} {l l' : List Int} {y : Value} (h : Rel w ok (.si f .u32 l) y) (h' : Rel w ok' (.si f' .u32 l') y) : l = l' := by
  simp only [Rel] at h h'
  obtain ⟨A, c, e, _, _, _, hx⟩ := h
  obtain ⟨A', c', e', _, _, _, hx'⟩ := h'
  rw [e] at e'
  simp only [Value.slice.injEq] at e'
  obtain ⟨rfl, hl, rfl⟩ := e'
  by_cases h0 : 0 < l.length
  · obtain ⟨b, o, rfl, _, hc⟩ := hx h0
    obtain ⟨b', o', e2, _, hc'⟩ := hx' (by omega)
    simp only [Option.some.injEq, Addr.mk.injEq, and_true] at e2
    obtain ⟨rfl, rfl⟩ := e2
    refine List.ext_getElem hl fun j h1 h2 => ?_
    have a := hc j _ (List.getElem?_eq_getElem h1)
    have a' := hc' j _ (List.getElem?_eq_getElem h2)
    rw [a] at a'
    simpa using a'
  · rw [List.eq_nil_of_length_eq_zero (show l.length = 0 by omega), List.eq_nil_of_length_eq_zero (show l'.length = 0 by omega)]
theorem uniq_iv {w : World} {ok ok' : Bool → Nat → Prop} {p p' : Bool} {f f' : Bool} {l l' : List Int} {ys : List Value} (h : Rels w ok [.v (.bool p), .si f .u32 l] ys) (h' : Rels w ok' [.v (.bool p'), .si f' .u32 l'] ys) : p = p' ∧ l = l' := by
  simp only [Rels] at h h'
  obtain ⟨y, zs, rfl, h1, z, us, rfl, h2, rfl⟩ := h
  obtain ⟨y', zs', e, h1', z', us', e', h2', rfl⟩ := h'
  simp only [List.cons.injEq] at e e'
  obtain ⟨rfl, rfl⟩ := e
  simp only [List.cons.injEq] at e'
  obtain ⟨rfl, _⟩ := e'
  simp only [Rel] at h1 h1'
  rw [h1] at h1'
  simp only [Value.bool.injEq] at h1'
  exact ⟨h1', uniq_li h2 h2'⟩
/-- A box holds one thing. -/
theorem bx_same {okA okA' : Acc} {w0 w0' : World} {N : Nat} {ρ ρ' : Nat → Value} {E E' : Env} {H H' : Hp} {T T' : Array Value} {w : World} {h : Nat} {cs cs' : List PV} (r : Rep okA w0 N ρ E H T w) (r' : Rep okA' w0' N ρ' E' H' T' w) (h1 : hk h H = some (.bx cs)) (h2 : hk h H' = some (.bx cs')) (he : ρ' h = ρ h) :
    ∃ ys, Rels w (okF okA w0.heap.size ρ H w.heap.size) cs ys ∧ Rels w (okF okA' w0'.heap.size ρ' H' w.heap.size) cs' ys := by
  have a := r.heap h _ h1
  have a' := r'.heap h _ h2
  simp only [RelB] at a a'
  obtain ⟨g, t, ys, e, _, hg, hr, _⟩ := a
  obtain ⟨g', t', ys', e', _, hg', hr', _⟩ := a'
  rw [he, e] at e'
  simp only [Value.pointer.injEq, Option.some.injEq, Addr.mk.injEq, and_true] at e'
  subst e'
  rw [hg] at hg'
  simp only [Option.some.injEq, Obj.cells.injEq] at hg'
  have : ys = ys' := by
    have := congrArg Array.toList hg'.1
    simpa using this
  subst this
  exact ⟨ys, hr, hr'⟩
theorem bx_cells {okA : Acc} {w0 : World} {N : Nat} {ρ : Nat → Value} {E : Env} {H : Hp} {T : Array Value} {w : World} {h k : Nat} {cs : List PV} {o : Obj} (r : Rep okA w0 N ρ E H T w) (h1 : hk h H = some (.bx cs)) (hb : blk (ρ h) = some k) (ho : w.heap[k]? = some o) : o.isCells = true := by
  have a := r.heap h _ h1
  simp only [RelB] at a
  obtain ⟨g, t, ys, e, _, hg, hr, _⟩ := a
  rw [e] at hb
  simp only [blk, Option.some.injEq] at hb
  subst hb
  rw [hg] at ho
  simp only [Option.some.injEq] at ho
  subst ho
  rfl
end Go.Av

set_option maxHeartbeats 8000000
set_option exponentiation.threshold 100000
set_option maxRecDepth 100000
set_option linter.unusedVariables false
set_option linter.unusedSimpArgs false
namespace Go.Av
open Go Go.Proofs
/-! slices.Reverse -/
theorem rd_rv {l : List Int} {i p : Nat} (h : p < l.length) : rd (rv l i) (p : Int) = if p < i ∨ l.length - i ≤ p then l.getD (l.length - 1 - p) 0 else l.getD p 0 := by
  unfold rd
  rw [Int.toNat_natCast, List.getD, List.getElem?_eq_getElem (by rw [rv_length]; exact h), rv_get h]
  rfl
theorem Reverse8_w (l : List Int) (hll : l.length < 4294967296) : ConW Tryz.prog 84 (.vec 1000000) [] 5 .u8 l l.reverse (.tp []) := by
  refine conW_of Tryz.func84 rfl rfl rfl rfl rfl rfl rfl ?_
  repeat (first | refine seq_ ?_ | refine region_ ?_ | refine nil_ ?_ | refine block_ ?_ | refine stepY (y_move rfl) rfl ?_ | refine stepY (y_assign rfl) rfl ?_ | refine stepY (y_len_vi rfl rfl) rfl ?_ | refine stepY (y_binn rfl rfl rfl (by simp only [InK, loK, hiK]; omega)) rfl ?_)
  refine loop_ (α := Nat) (fun i => ([(0, .vec 1000000), (2, .p (I i)), (3, .p (I ((l.length : Int) - 1 - i)))], [(1000000, .vi 5 .u8 (rv l i))])) (fun i => i ≤ l.length) (fun i => l.length - i) 0 (Nat.zero_le _) ?_ ?_ ?_
  · rw [show ((l.length : Int) - 1 - ((0 : Nat) : Int)) = (l.length : Int) - 1 by omega]; (repeat (first | exact sub_nil | refine sub_cons rfl ?_))
  · rw [rv_zero]; (repeat (first | exact subH_nil | refine subH_cons rfl ?_))
  intro i hi
  have hl : (rv l i).length = l.length := rv_length _ _
  by_cases hlt : 2 * i + 1 < l.length
  · obtain ⟨j, hj⟩ : ∃ j, j = l.length - 1 - i := ⟨_, rfl⟩
    have r1 : rd (rv l i) (j : Int) = l.getD (l.length - 1 - i) 0 := by
      rw [rd_rv (by omega), if_neg (by omega), hj]
    have r2 : rd (rv l i) (i : Int) = l.getD i 0 := by
      rw [rd_rv (by omega), if_neg (by omega)]
    have hl2 : ((rv l i).set ((i : Int).toNat) (rd (rv l i) (j : Int))).length = l.length := by rw [List.length_set, hl]
    rw [show ((l.length : Int) - 1 - (i : Int)) = (j : Int) by omega]
    repeat (first | refine seq_ ?_ | refine region_ ?_ | refine nil_ ?_ | refine skip_ ?_ | refine block_ ?_ | refine cond_t rfl ?_ | refine stepY (y_move rfl) rfl ?_ | refine stepY (y_cmpT rfl rfl rfl (by omega)) rfl ?_)
    refine draw_ [(0, true), (1, true), (2, true), (3, true), (4, true), (5, true), (6, true), (7, true), (8, true), (9, true), (10, true), (11, true), (12, true), (13, false), (14, true), (15, false)] 13 [1000000] mixed (by kernel_rfl) rfl ?_
    ((refine dY rfl (y_move rfl) rfl rfl rfl rfl ?_); refine dY rfl (y_move rfl) rfl rfl rfl rfl ?_; refine dY rfl (y_move rfl) rfl rfl rfl rfl ?_; refine dY rfl (y_move rfl) rfl rfl rfl rfl ?_; refine dY rfl (y_move rfl) rfl rfl rfl rfl ?_; refine dY rfl (y_move rfl) rfl rfl rfl rfl ?_; refine dY rfl (y_index_vi rfl rfl rfl (by omega) (by omega)) rfl rfl rfl rfl ?_; refine dY rfl (y_load_vi rfl rfl (by omega) (by omega)) rfl rfl rfl rfl ?_; refine dY rfl (y_move rfl) rfl rfl rfl rfl ?_; refine dY rfl (y_move rfl) rfl rfl rfl rfl ?_; refine dY rfl (y_index_vi rfl rfl rfl (by omega) (by omega)) rfl rfl rfl rfl ?_; refine dY rfl (y_load_vi rfl rfl (by omega) (by omega)) rfl rfl rfl rfl ?_; refine dY rfl (y_index_vi rfl rfl rfl (by omega) (by omega)) rfl rfl rfl rfl ?_; (refine dX rfl (e_store_vi rfl rfl rfl (by omega) (by omega)) rfl rfl ?_); refine dY rfl (y_index_vi rfl rfl rfl (by omega) (by omega)) rfl rfl rfl rfl ?_; (refine dE rfl (e_store_vi rfl rfl rfl (by omega) (by omega)) rfl rfl ?_); refine dEnd ?_)
    rw [r1, r2, Int.toNat_natCast, Int.toNat_natCast, hj, rv_set hlt]
    repeat (first | refine region_ ?_ | refine nil_ ?_ | refine stepY (y_move rfl) rfl ?_ | refine stepY (y_assign rfl) rfl ?_ | refine stepY (y_binn rfl rfl rfl (by simp only [InK, loK, hiK]; omega)) rfl ?_ | refine stepY (y_binn rfl rfl rfl (by simp only [InK, loK, hiK]; omega)) rfl ?_)
    refine ⟨i + 1, by omega, by omega, ?_, ?_⟩
    · (repeat (first | exact sub_nil | refine sub_cons rfl ?_ | refine sub_conse rfl (by (congr 3; omega)) ?_))
    · (repeat (first | exact subH_nil | refine subH_cons rfl ?_))
  · rw [rv_end (by omega) hi]
    repeat (first | refine seq_ ?_ | refine region_ ?_ | refine nil_ ?_ | refine exit_ ?_ | refine cond_f rfl ?_ | refine stepY (y_move rfl) rfl ?_ | refine stepY (y_cmpF rfl rfl rfl (by omega)) rfl ?_)
    refine ⟨?_, rfl⟩
    ((apply fin_n); (repeat (exact .nil)); (repeat (exact .refl _)))
/-! digits -/
theorem digits_r (n b : Nat) (hl : ln n ≤ 1000000) (hb : 2 ≤ b) (hb2 : b < 4294967296) : ConR Tryz.prog 83 [M n, U b] 3 .i64 (dI b n) := by
  refine conR_of Tryz.func83 rfl rfl rfl rfl rfl ?_
  have hdl := dI_len hb hl
  repeat (first | refine seq_ ?_ | refine region_ ?_ | refine nil_ ?_ | refine block_ ?_ | refine stepY (y_assign rfl) rfl ?_)
  refine nil_C (i := 5) 3 .i64 rfl rfl rfl ?_
  refine loop_ (α := Nat × List Int) (fun y => ([(0, .p (M y.1)), (1, .p (U b)), (5, .vec 5)], [(5, .vi 3 .i64 y.2)])) (fun y => ln y.1 ≤ 1000000 ∧ y.2 ++ dI b y.1 = dI b n) (fun y => y.1) (n, []) ⟨hl, rfl⟩ ?_ ?_ ?_
  · (repeat (first | exact sub_nil | refine sub_cons rfl ?_))
  · (repeat (first | exact subH_nil | refine subH_cons rfl ?_))
  intro ⟨m, o⟩ ⟨hm, ho⟩
  dsimp only at hm ho ⊢
  have hlen : ((limbs m).length : Int) = ln m := by rw [limbs_length]
  have hol : o.length + (dI b m).length = (dI b n).length := by rw [← ho, List.length_append]
  by_cases h0 : 0 < m
  · have h1 := ln_pos.2 h0
    have hd := Divided_c (limbs m) b (wf_limbs m) (by rw [limbs_length]; omega) (by omega) hb2
    rw [val_limbs] at hd
    have hmod := Nat.mod_lt m (show 0 < b by omega)
    have hlm := ln_mono (Nat.div_le_self m b)
    rw [dI_pos hb h0] at ho
    repeat (first | refine seq_ ?_ | refine region_ ?_ | refine nil_ ?_ | refine skip_ ?_ | refine block_ ?_ | refine cond_t rfl ?_ | refine stepY (y_move rfl) rfl ?_ | refine stepY (y_len_si rfl) rfl ?_ | refine stepY (y_cmpT rfl rfl rfl (by omega)) rfl ?_)
    refine call_ Tryz.func85 rfl rfl hd rfl (by repeat (first | exact .refl _ | apply Les.cons | exact .nil)) rfl ?_
    repeat (first | refine seq_ ?_ | refine region_ ?_ | refine nil_ ?_ | refine stepY (y_move rfl) rfl ?_ | refine stepY (y_assign rfl) rfl ?_ | refine stepY (y_extract rfl rfl) rfl ?_ | refine stepY (y_convn rfl (by simp only [InK, loK, hiK]; omega)) rfl ?_ | refine stepE (e_bs_vi (k := .i64) rfl rfl rfl rfl rfl) ?_)
    refine stepE (e_app_vi rfl rfl rfl (src_vi rfl rfl) (by simp only [List.length_cons, List.length_nil]; omega) rfl rfl) ?_
    repeat (first | refine region_ ?_ | refine nil_ ?_ | refine stepY (y_move rfl) rfl ?_ | refine stepY (y_assign rfl) rfl ?_)
    refine ⟨(m / b, o ++ [((m % b : Nat) : Int)]), ⟨by show ln (m / b) ≤ 1000000; omega, by rw [List.append_assoc]; exact ho⟩, Nat.div_lt_self h0 (by omega), ?_, ?_⟩
    · (repeat (first | exact sub_nil | refine sub_cons rfl ?_))
    · (repeat (first | exact subH_nil | refine subH_cons rfl ?_))
  · obtain rfl : m = 0 := by omega
    rw [dI_zero, List.append_nil] at ho
    subst ho
    have h1 : ln 0 = 0 := rfl
    repeat (first | refine seq_ ?_ | refine region_ ?_ | refine nil_ ?_ | refine exit_ ?_ | refine ret_ ?_ | refine cond_f rfl ?_ | refine stepY (y_move rfl) rfl ?_ | refine stepY (y_assign rfl) rfl ?_ | refine stepY (y_len_si rfl) rfl ?_ | refine stepY (y_cmpF rfl rfl rfl (by omega)) rfl ?_)
    exact ⟨.inr rfl, _, _, rfl, rfl, rfl, rfl⟩

/-! Format -/
def fmtL (p : Bool) (m : Nat) : List Int := (dI 10 m).map (fun d => 48 + d) ++ (if p then [45] else [])
def fmt (p : Bool) (m : Nat) : ByteArray := if m = 0 then ⟨#[48]⟩ else strOfNums (fmtL p m).reverse
theorem Format_e (p : Bool) (l : List Int) (h : vldB p l = false) : Con Tryz.prog 58 [AV p l] (.v (.string ⟨#[]⟩)) := by
  refine con_of Tryz.func58 rfl rfl rfl rfl rfl ?_
  have hv := Valid_c p l
  rw [h] at hv
  repeat (first | refine seq_ ?_ | refine region_ ?_ | refine nil_ ?_ | refine block_ ?_ | refine stepY (y_assign rfl) rfl ?_ | refine stepY (y_loadA rfl rfl rfl) rfl ?_ | refine stepE (e_box rfl rfl rfl rfl rfl rfl) ?_)
  refine call_ Tryz.func30 rfl rfl hv rfl (by repeat (first | exact .refl _ | apply Les.cons | exact .nil)) rfl ?_
  repeat (first | refine seq_ ?_ | refine region_ ?_ | refine nil_ ?_ | refine ret_ ?_ | refine cond_t rfl ?_ | refine stepY (y_assign rfl) rfl ?_ | refine stepY (y_not rfl) rfl ?_)
  ((apply fin_r); (repeat (first | exact .nil | exact .tmp rfl | apply ResL.cons)); (repeat (exact .refl _)))
theorem take_rd {l : List Int} {k : Nat} (h : k < l.length) (f : Int → Int) : (l.map f).take k ++ [f (rd l k)] = (l.map f).take (k + 1) := by
  unfold rd
  rw [Int.toNat_natCast, List.take_succ_eq_append_getElem (by simpa using h)]
  simp [List.getD, h]
theorem rd_mem {l : List Int} {k : Nat} (h : k < l.length) : rd l k ∈ l := by
  unfold rd
  rw [Int.toNat_natCast, List.getD, List.getElem?_eq_getElem h]
  exact List.getElem_mem h
theorem Format_s (p : Bool) (m : Nat) (hp : vldB p (limbs m) = true) : Con Tryz.prog 58 [SV p m] (.v (.string (fmt p m))) := by
  refine con_of Tryz.func58 rfl rfl rfl rfl rfl ?_
  have hv := Valid_c p (limbs m)
  rw [hp] at hv
  have hlm := vld_ln hp
  have hlen : ((limbs m).length : Int) = ln m := by rw [limbs_length]
  by_cases h0 : m = 0
  · subst h0
    have h1 : ln 0 = 0 := rfl
    unfold fmt
    rw [if_pos rfl]
    repeat (first | refine seq_ ?_ | refine region_ ?_ | refine nil_ ?_ | refine block_ ?_ | refine stepY (y_assign rfl) rfl ?_ | refine stepY (y_loadA rfl rfl rfl) rfl ?_ | refine stepE (e_box rfl rfl rfl rfl rfl rfl) ?_)
    refine call_ Tryz.func30 rfl rfl hv rfl (by repeat (first | exact .refl _ | apply Les.cons | exact .nil)) rfl ?_
    repeat (first | refine seq_ ?_ | refine region_ ?_ | refine nil_ ?_ | refine ret_ ?_ | refine cond_t rfl ?_ | refine cond_f rfl ?_ | refine stepY (y_assign rfl) rfl ?_ | refine stepY (y_load1 rfl rfl rfl) rfl ?_ | refine stepY (y_fieldAddr rfl) rfl ?_ | refine stepY (y_len_si rfl) rfl ?_ | refine stepY (y_not rfl) rfl ?_ | refine stepY (y_cmpT rfl rfl rfl (by omega)) rfl ?_)
    ((apply fin_r); (repeat (first | exact .nil | exact .tmp rfl | apply ResL.cons)); (repeat (exact .refl _)))
  · have h1 := ln_pos.2 (Nat.pos_of_ne_zero h0)
    have hdl := dI_len (b := 10) (by decide) hlm
    have hd := (digits_r m 10 (by omega) (by decide) (by decide)).con
    unfold fmt
    rw [if_neg h0]
    repeat (first | refine seq_ ?_ | refine region_ ?_ | refine nil_ ?_ | refine block_ ?_ | refine stepY (y_assign rfl) rfl ?_ | refine stepY (y_loadA rfl rfl rfl) rfl ?_ | refine stepE (e_box rfl rfl rfl rfl rfl rfl) ?_)
    refine call_ Tryz.func30 rfl rfl hv rfl (by repeat (first | exact .refl _ | apply Les.cons | exact .nil)) rfl ?_
    repeat (first | refine seq_ ?_ | refine region_ ?_ | refine nil_ ?_ | refine skip_ ?_ | refine cond_f rfl ?_ | refine stepY (y_assign rfl) rfl ?_ | refine stepY (y_load1 rfl rfl rfl) rfl ?_ | refine stepY (y_fieldAddr rfl) rfl ?_ | refine stepY (y_len_si rfl) rfl ?_ | refine stepY (y_not rfl) rfl ?_ | refine stepY (y_cmpF rfl rfl rfl (by omega)) rfl ?_)
    refine nil_L (i := 3) 5 .u8 rfl rfl rfl ?_
    refine call_ Tryz.func83 rfl rfl hd rfl (by repeat (first | exact .refl _ | apply Les.cons | exact .nil)) rfl ?_
    repeat (first | refine nil_ ?_ | refine block_ ?_ | refine stepY (y_move rfl) rfl ?_ | refine stepY (y_len_si rfl) rfl ?_)
    refine loop_ (α := Nat) (fun k => ([(1, .ptr 1 0), (3, .vec 3), (17, .p (.si true .i64 (dI 10 m))), (18, .p (I (dI 10 m).length)), (19, .p (I k))], [(1, .bx [Bo p, M m]), (3, .vi 5 .u8 (((dI 10 m).map fun d => 48 + d).take k))])) (fun k => k ≤ (dI 10 m).length) (fun k => (dI 10 m).length - k) 0 (Nat.zero_le _) ?_ ?_ ?_
    · (repeat (first | exact sub_nil | refine sub_cons rfl ?_))
    · (repeat (first | exact subH_nil | refine subH_cons rfl ?_))
    intro k hk
    by_cases hlt : k < (dI 10 m).length
    · have hbd := dI_bd (by decide) (rd_mem hlt)
      have htl : (((dI 10 m).map fun d => 48 + d).take k).length = k := by rw [List.length_take, List.length_map]; omega
      repeat (first | refine seq_ ?_ | refine region_ ?_ | refine nil_ ?_ | refine skip_ ?_ | refine block_ ?_ | refine cond_t rfl ?_ | refine stepY (y_move rfl) rfl ?_ | refine stepY (y_assign rfl) rfl ?_ | refine stepY (y_load_rc1 rfl rfl) rfl ?_ | refine stepY (y_convn rfl (by simp only [InK, loK, hiK]; omega)) rfl ?_ | refine stepY (y_index_si rfl rfl (by omega) (by omega)) rfl ?_ | refine stepY (y_binn rfl rfl rfl (by simp only [InK, loK, hiK]; omega)) rfl ?_ | refine stepY (y_cmpT rfl rfl rfl (by omega)) rfl ?_ | refine stepE (e_bs_vi (k := .u8) rfl rfl rfl rfl rfl) ?_)
      refine stepE (e_app_vi rfl rfl rfl (src_vi rfl rfl) (by simp only [List.length_cons, List.length_nil]; omega) rfl rfl) ?_
      repeat (first | refine region_ ?_ | refine nil_ ?_ | refine stepY (y_move rfl) rfl ?_ | refine stepY (y_assign rfl) rfl ?_ | refine stepY (y_binn rfl rfl rfl (by simp only [InK, loK, hiK]; omega)) rfl ?_)
      rw [take_rd hlt]
      refine ⟨k + 1, by omega, by omega, ?_, ?_⟩ <;> (repeat (first | exact sub_nil | exact subH_nil | refine sub_cons rfl ?_ | refine subH_cons rfl ?_))
    · obtain rfl : k = (dI 10 m).length := by omega
      rw [show (((dI 10 m).map fun d => 48 + d).take (dI 10 m).length) = (dI 10 m).map fun d => 48 + d by rw [List.take_of_length_le (by simp)]]
      have hml : ((dI 10 m).map fun d => 48 + d).length = (dI 10 m).length := by simp
      have hrv := Reverse8_w (fmtL p m) (by unfold fmtL; rw [List.length_append, hml]; cases p <;> simp <;> omega)
      cases p with
      | false =>
        have e : fmtL false m = (dI 10 m).map fun d => 48 + d := by simp [fmtL]
        rw [e] at hrv ⊢
        repeat (first | refine seq_ ?_ | refine region_ ?_ | refine nil_ ?_ | refine skip_ ?_ | refine exit_ ?_ | refine cond_f rfl ?_ | refine stepY (y_move rfl) rfl ?_ | refine stepY (y_load1 rfl rfl rfl) rfl ?_ | refine stepY (y_fieldAddr rfl) rfl ?_ | refine stepY (y_cmpF rfl rfl rfl (by omega)) rfl ?_)
        refine callW_ Tryz.func84 rfl rfl hrv rfl rfl rfl (by repeat (exact .nil)) rfl ?_
        repeat (first | refine seq_ ?_ | refine region_ ?_ | refine nil_ ?_ | refine stepY (y_move rfl) rfl ?_)
        refine seal_L (i := 37) (h := 3) rfl rfl rfl rfl ?_
        repeat (first | refine nil_ ?_ | refine ret_ ?_ | refine stepY (y_assign rfl) rfl ?_ | refine stepY (y_str_si rfl) rfl ?_)
        ((apply fin_r); (repeat (first | exact .nil | exact .tmp rfl | apply ResL.cons)); (repeat (exact .refl _)))
      | true =>
        have e : fmtL true m = ((dI 10 m).map fun d => 48 + d) ++ [45] := by simp [fmtL]
        rw [e] at hrv ⊢
        repeat (first | refine seq_ ?_ | refine region_ ?_ | refine nil_ ?_ | refine exit_ ?_ | refine cond_t rfl ?_ | refine cond_f rfl ?_ | refine stepY (y_move rfl) rfl ?_ | refine stepY (y_load1 rfl rfl rfl) rfl ?_ | refine stepY (y_fieldAddr rfl) rfl ?_ | refine stepY (y_cmpF rfl rfl rfl (by omega)) rfl ?_ | refine stepE (e_bs_vi (k := .u8) rfl rfl rfl rfl rfl) ?_)
        refine stepE (e_app_vi rfl rfl rfl (src_vi rfl rfl) (by simp only [List.length_cons, List.length_nil]; omega) rfl rfl) ?_
        repeat (first | refine seq_ ?_ | refine region_ ?_ | refine nil_ ?_ | refine stepY (y_move rfl) rfl ?_ | refine stepY (y_assign rfl) rfl ?_)
        refine callW_ Tryz.func84 rfl rfl hrv rfl rfl rfl (by repeat (exact .nil)) rfl ?_
        repeat (first | refine seq_ ?_ | refine region_ ?_ | refine nil_ ?_ | refine stepY (y_move rfl) rfl ?_)
        refine seal_L (i := 37) (h := 3) rfl rfl rfl rfl ?_
        repeat (first | refine nil_ ?_ | refine ret_ ?_ | refine stepY (y_assign rfl) rfl ?_ | refine stepY (y_str_si rfl) rfl ?_)
        ((apply fin_r); (repeat (first | exact .nil | exact .tmp rfl | apply ResL.cons)); (repeat (exact .refl _)))
end Go.Av

/-! Plain facts on signs, quotients, comparisons. -/
set_option linter.unusedVariables false
set_option linter.unusedSimpArgs false
namespace Go.Av
open Go
theorem icmp_bd (x y : Int) : -1 ≤ icmp x y ∧ icmp x y ≤ 1 := by unfold icmp; split <;> (try split) <;> omega
theorem icmp_sw (x y : Int) : icmp y x = -icmp x y := by
  unfold icmp
  split <;> split <;> (try split) <;> omega
theorem icmp_neg (x y : Int) : icmp (-y) (-x) = icmp x y := by
  unfold icmp
  by_cases h : x < y
  · rw [if_pos h, if_pos (by omega)]
  · rw [if_neg h, if_neg (by omega)]
    by_cases h2 : y < x
    · rw [if_pos h2, if_pos (by omega)]
    · rw [if_neg h2, if_neg (by omega)]
theorem icmp_add (x y z : Int) : icmp (x + z) (y + z) = icmp x y := by
  unfold icmp
  by_cases h : x < y
  · rw [if_pos h, if_pos (by omega)]
  · rw [if_neg h, if_neg (by omega)]
    by_cases h2 : y < x
    · rw [if_pos h2, if_pos (by omega)]
    · rw [if_neg h2, if_neg (by omega)]
theorem icmp_lt {x y : Int} : icmp x y < 0 ↔ x < y := by
  unfold icmp
  split
  · omega
  · split <;> omega
theorem icmp_gt {x y : Int} : 0 < icmp x y ↔ y < x := by
  unfold icmp
  split
  · omega
  · split <;> omega
theorem icmp_of_lt {x y : Int} (h : x < y) : icmp x y = -1 := by unfold icmp; rw [if_pos h]
theorem div_id (p q : Bool) (m n : Nat) (hn : 0 < n) : dq p q m n * sgn q n + dr p q m n = sgn p m := by
  have h : (n : Int) * ((m / n : Nat) : Int) + ((m % n : Nat) : Int) = m := by
    have := Nat.div_add_mod m n
    rw [← Int.natCast_mul, ← Int.natCast_add, this]
  have hr : m % n ≤ n := Nat.le_of_lt (Nat.mod_lt m hn)
  unfold dq dr
  generalize m / n = t at *
  have hcm := Int.mul_comm (n : Int) (t : Int)
  by_cases h0 : (p != q) = true ∧ 0 < m % n
  · rw [if_pos h0, if_pos h0]
    generalize m % n = r at *
    have hc : ((n - r : Nat) : Int) = (n : Int) - r := by omega
    cases p <;> cases q <;> simp [sgn, Int.neg_mul, Int.mul_neg, Int.add_mul, hc] at h0 ⊢ <;> omega
  · rw [if_neg h0, if_neg h0]
    by_cases hpq : (p != q) = true
    · have hr0 : m % n = 0 := by
        rcases Nat.eq_zero_or_pos (m % n) with h1 | h1
        · exact h1
        · exact absurd ⟨hpq, h1⟩ h0
      rw [hr0] at h ⊢
      cases p <;> cases q <;> simp [sgn, Int.neg_mul, Int.mul_neg] at hpq h ⊢ <;> omega
    · generalize m % n = r at *
      cases p <;> cases q <;> simp [sgn, Int.neg_mul, Int.mul_neg] at hpq h ⊢ <;> omega
/-- The remainder's size. -/
def ra (p q : Bool) (m n : Nat) : Nat := if (p != q) = true ∧ 0 < m % n then n - m % n else m % n
theorem dr_ra (p q : Bool) (m n : Nat) : dr p q m n = sgn q (ra p q m n) := by unfold dr ra; split <;> rfl
theorem ra_lt {p q : Bool} {m n : Nat} (h : 0 < n) : ra p q m n < n := by
  have := Nat.mod_lt m h
  unfold ra; split <;> omega
theorem ra_gcd {p q : Bool} {m n : Nat} (h : 0 < n) : Nat.gcd n (ra p q m n) = Nat.gcd m n := by
  have h1 : Nat.gcd n (m % n) = Nat.gcd m n := by
    rw [Nat.gcd_comm n, ← Nat.gcd_rec, Nat.gcd_comm]
  have h2 := Nat.mod_lt m h
  unfold ra
  split
  · rw [← h1]
    have h3 : n = (n - m % n) + m % n := by omega
    have h4 := gcd_sl (x := n) (y := m % n) (Nat.le_of_lt h2)
    rw [← h4]
    have h5 : Nat.gcd n (n - m % n) = Nat.gcd ((n - m % n) + m % n) (n - m % n) := by rw [← h3]
    rw [h5, Nat.gcd_comm, Nat.gcd_self_add_right]
  · exact h1
theorem ra_dvd {p : Bool} {m g : Nat} (h : g ∣ m) : ra p false m g = 0 := by
  have h1 : m % g = 0 := Nat.mod_eq_zero_of_dvd h
  unfold ra
  rw [h1]
  rw [if_neg (by omega)]
end Go.Av
