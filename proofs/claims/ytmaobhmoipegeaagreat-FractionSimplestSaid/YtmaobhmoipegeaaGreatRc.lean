/- Contracts behind a law: no conditions beyond those in each statement. -/
import Derived.Test.YtmaobhmoipegeaaGreatRb
import Derived.Test.YtmaobhmoipegeaaGreatJ5
set_option maxHeartbeats 8000000
set_option exponentiation.threshold 100000
set_option maxRecDepth 100000
set_option linter.unusedVariables false
set_option linter.unusedSimpArgs false
namespace Go.Av
open Go Go.Proofs
/-! The reference of the fractions: simplest; FractionSimplest -/
theorem M1 : M 1 = .si false .u32 [1] := by
  have : limbs 1 = [((1 : Nat) : Int)] := limbs_one (by decide) (by decide)
  show PV.si false .u32 (limbs 1) = _
  rw [this]
  rfl
theorem simplest3_c : ∀ (k n d u v : Nat), d + v < k → Gd n d u v → 0 < n → ln n ≤ 512 → ln d ≤ 512 → ln u ≤ 512 → ln v ≤ 512 → Con Tryz.prog 68 [M n, M d, M u, M v] (.tp [M (sq n d u v).1, M (sq n d u v).2])
  | 0, _, _, _, _, h, _, _, _, _, _, _ => by omega
  | k + 1, n, d, u, v, hk, g, hn, l1, l2, l3, l4 => by
    have hD1 := divide3_c n d g.dp (by omega) (by omega)
    have hD2 := divide3_c u v g.vp (by omega) (by omega)
    have hlr : ((limbs (n % d)).length : Int) = ln (n % d) := by rw [limbs_length]
    have lq : ln (n / d) ≤ 512 := Nat.le_trans (ln_mono (Nat.div_le_self _ _)) l1
    by_cases h1 : n % d = 0
    · rw [sq_0 h1]
      dsimp only
      rw [M1]
      have hz : ln (n % d) = 0 := by rw [h1]; rfl
      refine con_of Tryz.func68 rfl rfl rfl rfl rfl ?_
      repeat (first | refine seq_ ?_ | refine region_ ?_ | refine nil_ ?_ | refine stepY (y_move rfl) rfl ?_ | refine stepY (y_assign rfl) rfl ?_)
      refine call_ Tryz.func90 rfl rfl (hD1) rfl (by repeat (first | exact .refl _ | apply Les.cons | exact .nil)) rfl ?_
      repeat (first | refine seq_ ?_ | refine region_ ?_ | refine nil_ ?_ | refine ret_ ?_ | refine cond_t rfl ?_ | refine stepY (y_move rfl) rfl ?_ | refine stepY (y_assign rfl) rfl ?_ | refine stepY (y_extract rfl rfl) rfl ?_ | refine stepY (y_len_si rfl) rfl ?_ | refine stepY (y_cmpT rfl rfl rfl (by omega)) rfl ?_ | refine stepE (e_bs_vi (k := .u32) rfl rfl rfl rfl rfl) ?_)
      ((apply fin_r); (repeat (first | exact .nil | exact .tmp rfl | exact .vi rfl rfl rfl | apply ResL.cons)); (repeat (first | exact .refl _ | exact .tag _ _ | apply Le.tp | apply Les.cons | exact .nil)))
    · have hz := ln_pos.2 (Nat.pos_of_ne_zero h1)
      have hcm := compare3_c (n / d) (u / v)
      by_cases h2 : n / d = u / v
      · obtain ⟨g2, hlt⟩ := g.step h1 h2
        have ih := simplest3_c k v (u % v) d (n % d) (by omega) g2 g.vp l4 (Nat.le_trans (ln_mono (Nat.mod_le _ _)) l3) l2 (Nat.le_trans (ln_mono (Nat.mod_le _ _)) l1)
        have hb := sq_bs g2
        have e := sq_2 g h1 h2
        rw [e]
        simp only [co1]
        have hx : ln (sq v (u % v) d (n % d)).1 ≤ 512 := Nat.le_trans (ln_mono hb.a) l4
        have hy : ln (sq v (u % v) d (n % d)).2 ≤ 512 := Nat.le_trans (ln_mono hb.b) (Nat.le_trans (ln_mono (Nat.mod_le _ _)) l3)
        generalize sq v (u % v) d (n % d) = s at *
        have ht := times3_c (n / d) s.1 (by omega) (by omega)
        have hm := ln_mul lq hx
        have hp := plus3_c (n / d * s.1) s.2 (by omega) (by omega)
        have hs : ¬ sg (n / d) (u / v) < 0 := by rw [h2, sg_eq]; omega
        refine con_of Tryz.func68 rfl rfl rfl rfl rfl ?_
        repeat (first | refine seq_ ?_ | refine region_ ?_ | refine nil_ ?_ | refine stepY (y_move rfl) rfl ?_ | refine stepY (y_assign rfl) rfl ?_)
        refine call_ Tryz.func90 rfl rfl (hD1) rfl (by repeat (first | exact .refl _ | apply Les.cons | exact .nil)) rfl ?_
        repeat (first | refine seq_ ?_ | refine region_ ?_ | refine nil_ ?_ | refine skip_ ?_ | refine cond_f rfl ?_ | refine stepY (y_move rfl) rfl ?_ | refine stepY (y_assign rfl) rfl ?_ | refine stepY (y_extract rfl rfl) rfl ?_ | refine stepY (y_len_si rfl) rfl ?_ | refine stepY (y_cmpF rfl rfl rfl (by omega)) rfl ?_)
        refine call_ Tryz.func90 rfl rfl (hD2) rfl (by repeat (first | exact .refl _ | apply Les.cons | exact .nil)) rfl ?_
        repeat (first | refine seq_ ?_ | refine region_ ?_ | refine nil_ ?_ | refine stepY (y_move rfl) rfl ?_ | refine stepY (y_assign rfl) rfl ?_ | refine stepY (y_extract rfl rfl) rfl ?_)
        refine call_ Tryz.func104 rfl rfl (hcm) rfl (by repeat (first | exact .refl _ | apply Les.cons | exact .nil)) rfl ?_
        repeat (first | refine seq_ ?_ | refine region_ ?_ | refine nil_ ?_ | refine skip_ ?_ | refine cond_f rfl ?_ | refine stepY (y_move rfl) rfl ?_ | refine stepY (y_cmpF rfl rfl rfl (by omega)) rfl ?_)
        refine call_ Tryz.func68 rfl rfl (ih) rfl (by repeat (first | exact .refl _ | apply Les.cons | exact .nil)) rfl ?_
        repeat (first | refine seq_ ?_ | refine region_ ?_ | refine nil_ ?_ | refine stepY (y_move rfl) rfl ?_ | refine stepY (y_assign rfl) rfl ?_ | refine stepY (y_extract rfl rfl) rfl ?_)
        refine call_ Tryz.func49 rfl rfl (ht) rfl (by repeat (first | exact .refl _ | apply Les.cons | exact .nil)) rfl ?_
        repeat (refine stepY (y_move rfl) rfl ?_)
        refine call_ Tryz.func110 rfl rfl (hp) rfl (by repeat (first | exact .refl _ | apply Les.cons | exact .nil)) rfl ?_
        repeat (first | refine nil_ ?_ | refine ret_ ?_ | refine stepY (y_move rfl) rfl ?_ | refine stepY (y_assign rfl) rfl ?_)
        ((apply fin_r); (repeat (first | exact .nil | exact .tmp rfl | apply ResL.cons)); (repeat (exact .refl _)))
      · rw [sq_1 h1 h2]
        dsimp only
        have hlt : sg (n / d) (u / v) < 0 := by
          have := div_le g
          rw [sg_lt (by omega)]; omega
        have hp := plus3_c (n / d) 1 (by omega) (by decide)
        rw [M1] at *
        refine con_of Tryz.func68 rfl rfl rfl rfl rfl ?_
        repeat (first | refine seq_ ?_ | refine region_ ?_ | refine nil_ ?_ | refine stepY (y_move rfl) rfl ?_ | refine stepY (y_assign rfl) rfl ?_)
        refine call_ Tryz.func90 rfl rfl (hD1) rfl (by repeat (first | exact .refl _ | apply Les.cons | exact .nil)) rfl ?_
        repeat (first | refine seq_ ?_ | refine region_ ?_ | refine nil_ ?_ | refine skip_ ?_ | refine cond_f rfl ?_ | refine stepY (y_move rfl) rfl ?_ | refine stepY (y_assign rfl) rfl ?_ | refine stepY (y_extract rfl rfl) rfl ?_ | refine stepY (y_len_si rfl) rfl ?_ | refine stepY (y_cmpF rfl rfl rfl (by omega)) rfl ?_)
        refine call_ Tryz.func90 rfl rfl (hD2) rfl (by repeat (first | exact .refl _ | apply Les.cons | exact .nil)) rfl ?_
        repeat (first | refine seq_ ?_ | refine region_ ?_ | refine nil_ ?_ | refine stepY (y_move rfl) rfl ?_ | refine stepY (y_assign rfl) rfl ?_ | refine stepY (y_extract rfl rfl) rfl ?_)
        refine call_ Tryz.func104 rfl rfl (hcm) rfl (by repeat (first | exact .refl _ | apply Les.cons | exact .nil)) rfl ?_
        repeat (first | refine seq_ ?_ | refine region_ ?_ | refine nil_ ?_ | refine cond_t rfl ?_ | refine stepY (y_move rfl) rfl ?_ | refine stepY (y_cmpT rfl rfl rfl (by omega)) rfl ?_ | refine stepE (e_bs_vi (k := .u32) rfl rfl rfl rfl rfl) ?_)
        refine seal_L (i := 38) (h := 38) rfl rfl rfl rfl ?_
        refine call_ Tryz.func110 rfl rfl (hp) rfl (by repeat (first | exact .refl _ | exact .tag _ _ | apply Les.cons | exact .nil)) rfl ?_
        repeat (first | refine nil_ ?_ | refine ret_ ?_ | refine stepY (y_assign rfl) rfl ?_ | refine stepE (e_bs_vi (k := .u32) rfl rfl rfl rfl rfl) ?_)
        ((apply fin_r); (repeat (first | exact .nil | exact .tmp rfl | exact .vi rfl rfl rfl | apply ResL.cons)); (repeat (first | exact .refl _ | exact .tag _ _ | apply Le.tp | apply Les.cons | exact .nil)))
theorem RSimplest_e (p p' : Bool) (l l' : List Int) (q q' : Bool) (k k' : List Int) (hl : wf l) (hk : wf k) (hl' : wf l') (hk' : wf k') (h : (vldF p l q k && vldF p' l' q' k') = false) : Con Tryz.prog 23 [AF p l q k, AF p' l' q' k'] (.tp [ZM, E_ 1]) := by
  refine con_of Tryz.func23 rfl rfl rfl rfl rfl ?_
  have hv := RFValid_c p l q k hl hk
  have hv2 := RFValid_c p' l' q' k' hl' hk'
  cases h1 : vldF p l q k with
  | false =>
    rw [h1] at hv
    repeat (first | refine seq_ ?_ | refine region_ ?_ | refine nil_ ?_ | refine stepY (y_assign rfl) rfl ?_ | refine stepY (y_loadA rfl rfl rfl) rfl ?_ | refine stepE (e_box rfl rfl rfl rfl rfl rfl) ?_ | refine stepE (e_alloc rfl rfl rfl) ?_)
    refine call_ Tryz.func20 rfl rfl (hv) rfl (by repeat (first | exact .refl _ | apply Les.cons | exact .nil)) rfl ?_
    repeat (first | refine seq_ ?_ | refine region_ ?_ | refine nil_ ?_ | refine ret_ ?_ | refine cond_t rfl ?_ | refine guard_f rfl rfl rfl rfl ?_ | refine stepY (y_move rfl) rfl ?_ | refine stepY (y_assign rfl) rfl ?_ | refine stepY (y_not rfl) rfl ?_ | refine stepY (y_pick_t rfl rfl) rfl ?_ | refine stepY (y_build rfl rfl rfl) rfl ?_ | refine stepE (e_store rfl rfl rfl rfl rfl rfl rfl) ?_)
    ((apply fin_r); (repeat (first | exact .nil | exact .tmp rfl | exact .agg rfl rfl rfl | apply ResL.cons)); (repeat (first | exact .refl _ | exact .nil _ _ | apply Le.ag | apply Le.tp | apply Les.cons | exact .nil)))
  | true =>
    rw [h1, Bool.true_and] at h
    rw [h1] at hv
    rw [h] at hv2
    repeat (first | refine seq_ ?_ | refine region_ ?_ | refine nil_ ?_ | refine stepY (y_assign rfl) rfl ?_ | refine stepY (y_loadA rfl rfl rfl) rfl ?_ | refine stepE (e_box rfl rfl rfl rfl rfl rfl) ?_ | refine stepE (e_alloc rfl rfl rfl) ?_)
    refine call_ Tryz.func20 rfl rfl (hv) rfl (by repeat (first | exact .refl _ | apply Les.cons | exact .nil)) rfl ?_
    repeat (first | refine guard_t rfl rfl rfl ?_ | refine stepY (y_move rfl) rfl ?_ | refine stepY (y_loadA rfl rfl rfl) rfl ?_ | refine stepY (y_not rfl) rfl ?_)
    refine call_ Tryz.func20 rfl rfl (hv2) rfl (by repeat (first | exact .refl _ | apply Les.cons | exact .nil)) rfl ?_
    repeat (first | refine seq_ ?_ | refine region_ ?_ | refine nil_ ?_ | refine ret_ ?_ | refine cond_t rfl ?_ | refine guard_t rfl rfl rfl ?_ | refine stepY (y_assign rfl) rfl ?_ | refine stepY (y_not rfl) rfl ?_ | refine stepY (y_pick_f rfl rfl) rfl ?_ | refine stepY (y_build rfl rfl rfl) rfl ?_ | refine stepE (e_store rfl rfl rfl rfl rfl rfl rfl) ?_)
    ((apply fin_r); (repeat (first | exact .nil | exact .tmp rfl | exact .agg rfl rfl rfl | apply ResL.cons)); (repeat (first | exact .refl _ | exact .nil _ _ | apply Le.ag | apply Le.tp | apply Les.cons | exact .nil)))
theorem RSimplest_r (x y : Rat) (hx : okQ x) (hy : okQ y) (h : y < x) : Con Tryz.prog 23 [QV x, QV y] (.tp [ZM, E_ 3]) := by
  have hv := RFv_t (vG_q hx)
  have hv2 := RFv_t (vG_q hy)
  have hc := RFCmp_q x y hx hy
  rw [show qcmp x y = 1 by unfold qcmp; rw [if_neg (fun h' => absurd (Rat.le_of_lt h) (Rat.not_le.2 h')), if_pos h]] at hc
  refine con_of Tryz.func23 rfl rfl rfl rfl rfl ?_
  repeat (first | refine seq_ ?_ | refine region_ ?_ | refine nil_ ?_ | refine stepY (y_assign rfl) rfl ?_ | refine stepY (y_loadA rfl rfl rfl) rfl ?_ | refine stepE (e_box rfl rfl rfl rfl rfl rfl) ?_ | refine stepE (e_alloc rfl rfl rfl) ?_)
  refine call_ Tryz.func20 rfl rfl (hv) rfl (by repeat (first | exact .refl _ | apply Les.cons | exact .nil)) rfl ?_
  repeat (first | refine guard_t rfl rfl rfl ?_ | refine stepY (y_move rfl) rfl ?_ | refine stepY (y_loadA rfl rfl rfl) rfl ?_ | refine stepY (y_not rfl) rfl ?_)
  refine call_ Tryz.func20 rfl rfl (hv2) rfl (by repeat (first | exact .refl _ | apply Les.cons | exact .nil)) rfl ?_
  repeat (first | refine seq_ ?_ | refine region_ ?_ | refine nil_ ?_ | refine skip_ ?_ | refine cond_f rfl ?_ | refine guard_t rfl rfl rfl ?_ | refine stepY (y_loadA rfl rfl rfl) rfl ?_ | refine stepY (y_not rfl) rfl ?_ | refine stepY (y_pick_f rfl rfl) rfl ?_)
  refine call_ Tryz.func29 rfl rfl (hc) rfl (by repeat (first | exact .refl _ | apply Les.cons | exact .nil)) rfl ?_
  repeat (first | refine seq_ ?_ | refine region_ ?_ | refine nil_ ?_ | refine ret_ ?_ | refine cond_t rfl ?_ | refine stepY (y_move rfl) rfl ?_ | refine stepY (y_assign rfl) rfl ?_ | refine stepY (y_extract rfl rfl) rfl ?_ | refine stepY (y_build rfl rfl rfl) rfl ?_ | refine stepY (y_cmpT rfl rfl rfl (by omega)) rfl ?_ | refine stepE (e_store rfl rfl rfl rfl rfl rfl rfl) ?_)
  ((apply fin_r); (repeat (first | exact .nil | exact .tmp rfl | exact .agg rfl rfl rfl | apply ResL.cons)); (repeat (first | exact .refl _ | exact .nil _ _ | apply Le.ag | apply Le.tp | apply Les.cons | exact .nil)))
theorem sqr_made (s : Bool) {n d u v : Nat} (hg : Gd n d u v) (hn : 0 < n) (l1 : ln n ≤ 512) (l2 : ln d ≤ 512) : Con Tryz.prog 48 [Bo s, M (sq n d u v).1, M (sq n d u v).2] (.tp [QV (if s then -(sqr n d u v) else sqr n d u v), E_ 0]) := by
  have hp := sq_pos hg hn
  have hb := sq_bs hg
  have hm := made3_c s (sq n d u v).1 (sq n d u v).2 hp.2 (by have := ln_mono hb.a; omega) (by have := ln_mono hb.b; omega)
  have hok := (sqr_ok hg hn l1 l2).1
  have e : mkRat (sgn s (sq n d u v).1) (sq n d u v).2 = if s then -(sqr n d u v) else sqr n d u v := by
    unfold sqr
    cases s
    · simp [sgn]
    · simp [sgn, Rat.neg_mkRat]
  rw [e] at hm
  have hok2 : okQ (if s then -(sqr n d u v) else sqr n d u v) := by
    cases s
    · exact hok
    · unfold okQ at hok ⊢
      simp only [if_true]
      rwa [Rat.neg_num, Rat.neg_den, Int.natAbs_neg]
  rwa [resM_ok hok2] at hm
theorem RSimplest_q (x y : Rat) (hx : okQ x) (hy : okQ y) (h : x ≤ y) : Con Tryz.prog 23 [QV x, QV y] (.tp [QV (smp x y), E_ 0]) := by
  have hv := RFv_t (vG_q hx)
  have hv2 := RFv_t (vG_q hy)
  have hc := RFCmp_q x y hx hy
  obtain ⟨qc, hqc⟩ : ∃ qc, qcmp x y = qc := ⟨_, rfl⟩
  have hqn : ¬ 0 < qc := by
    rw [← hqc]
    unfold qcmp
    split
    · omega
    · rw [if_neg (Rat.not_lt.2 h)]; omega
  rw [hqc] at hc
  have hlx : ((limbs x.num.natAbs).length : Int) = ln x.num.natAbs := by rw [limbs_length]
  by_cases h1 : 0 < x.num
  · have hsm : smp x y = sqr x.num.natAbs x.den y.num.natAbs y.den := by unfold smp; rw [if_pos h1]
    have g := gd_pos h1 h
    have hS := simplest3_c (x.den + y.den + 1) _ _ _ _ (by omega) g (by omega) hx.1 hx.2 hy.1 hy.2
    have hM := sqr_made false g (by omega) hx.1 hx.2
    simp only [Bool.false_eq_true, if_false] at hM
    rw [← hsm] at hM
    have hlp := ln_pos.2 (show 0 < x.num.natAbs by omega)
    have e1 : decide (x.num < 0) = false := decide_eq_false (by omega)
    unfold QV at hc ⊢
    rw [e1] at hv hc ⊢
    generalize sq x.num.natAbs x.den y.num.natAbs y.den = s at *
    refine con_of Tryz.func23 rfl rfl rfl rfl rfl ?_
    repeat (first | refine seq_ ?_ | refine region_ ?_ | refine nil_ ?_ | refine stepY (y_assign rfl) rfl ?_ | refine stepY (y_loadA rfl rfl rfl) rfl ?_ | refine stepE (e_box rfl rfl rfl rfl rfl rfl) ?_ | refine stepE (e_alloc rfl rfl rfl) ?_)
    refine call_ Tryz.func20 rfl rfl (hv) rfl (by repeat (first | exact .refl _ | apply Les.cons | exact .nil)) rfl ?_
    repeat (first | refine guard_t rfl rfl rfl ?_ | refine stepY (y_move rfl) rfl ?_ | refine stepY (y_loadA rfl rfl rfl) rfl ?_ | refine stepY (y_not rfl) rfl ?_)
    refine call_ Tryz.func20 rfl rfl (hv2) rfl (by repeat (first | exact .refl _ | apply Les.cons | exact .nil)) rfl ?_
    repeat (first | refine seq_ ?_ | refine region_ ?_ | refine nil_ ?_ | refine skip_ ?_ | refine cond_f rfl ?_ | refine guard_t rfl rfl rfl ?_ | refine stepY (y_loadA rfl rfl rfl) rfl ?_ | refine stepY (y_not rfl) rfl ?_ | refine stepY (y_pick_f rfl rfl) rfl ?_)
    refine call_ Tryz.func29 rfl rfl (hc) rfl (by repeat (first | exact .refl _ | apply Les.cons | exact .nil)) rfl ?_
    repeat (first | refine seq_ ?_ | refine region_ ?_ | refine nil_ ?_ | refine skip_ ?_ | refine cond_f rfl ?_ | refine guard_t rfl rfl rfl ?_ | refine guard_f rfl rfl rfl rfl ?_ | refine stepY (y_move rfl) rfl ?_ | refine stepY (y_assign rfl) rfl ?_ | refine stepY (y_load1 rfl rfl rfl) rfl ?_ | refine stepY (y_fieldAddr rfl) rfl ?_ | refine stepY (y_extract rfl rfl) rfl ?_ | refine stepY (y_len_si rfl) rfl ?_ | refine stepY (y_pick_f rfl rfl) rfl ?_ | refine stepY (y_cmpF rfl rfl rfl (by omega)) rfl ?_ | refine stepY (y_cmpF rfl rfl rfl (by omega)) rfl ?_)
    refine call_ Tryz.func68 rfl rfl (hS) rfl (by repeat (first | exact .refl _ | apply Les.cons | exact .nil)) rfl ?_
    repeat (first | refine seq_ ?_ | refine region_ ?_ | refine nil_ ?_ | refine stepY (y_move rfl) rfl ?_ | refine stepY (y_assign rfl) rfl ?_ | refine stepY (y_extract rfl rfl) rfl ?_)
    refine call_ Tryz.func48 rfl rfl (hM) rfl (by repeat (first | exact .refl _ | apply Les.cons | exact .nil)) rfl ?_
    repeat (first | refine nil_ ?_ | refine ret_ ?_ | refine stepY (y_assign rfl) rfl ?_ | refine stepY (y_extract rfl rfl) rfl ?_ | refine stepE (e_store rfl rfl rfl rfl rfl rfl rfl) ?_)
    ((apply fin_r); (repeat (first | exact .nil | exact .tmp rfl | exact .agg rfl rfl rfl | apply ResL.cons)); (repeat (exact .refl _)))
  · have h1m := made3_c false 0 1 (by decide) (by decide) (by decide)
    rw [show mkRat (sgn false 0) 1 = 0 from rfl, resM_ok (x := 0) (by decide), M1] at h1m
    by_cases h2 : 0 ≤ y.num
    · have hsm : smp x y = 0 := by unfold smp; rw [if_neg h1, if_pos h2]
      rw [hsm]
      have e2 : decide (y.num < 0) = false := decide_eq_false (by omega)
      unfold QV at hc ⊢
      rw [e2] at hv2 hc ⊢
      by_cases h3 : x.num < 0
      · have e1 : decide (x.num < 0) = true := decide_eq_true h3
        rw [e1] at hv hc ⊢
        refine con_of Tryz.func23 rfl rfl rfl rfl rfl ?_
        repeat (first | refine seq_ ?_ | refine region_ ?_ | refine nil_ ?_ | refine stepY (y_assign rfl) rfl ?_ | refine stepY (y_loadA rfl rfl rfl) rfl ?_ | refine stepE (e_box rfl rfl rfl rfl rfl rfl) ?_ | refine stepE (e_alloc rfl rfl rfl) ?_)
        refine call_ Tryz.func20 rfl rfl (hv) rfl (by repeat (first | exact .refl _ | apply Les.cons | exact .nil)) rfl ?_
        repeat (first | refine guard_t rfl rfl rfl ?_ | refine stepY (y_move rfl) rfl ?_ | refine stepY (y_loadA rfl rfl rfl) rfl ?_ | refine stepY (y_not rfl) rfl ?_)
        refine call_ Tryz.func20 rfl rfl (hv2) rfl (by repeat (first | exact .refl _ | apply Les.cons | exact .nil)) rfl ?_
        repeat (first | refine seq_ ?_ | refine region_ ?_ | refine nil_ ?_ | refine skip_ ?_ | refine cond_f rfl ?_ | refine guard_t rfl rfl rfl ?_ | refine stepY (y_loadA rfl rfl rfl) rfl ?_ | refine stepY (y_not rfl) rfl ?_ | refine stepY (y_pick_f rfl rfl) rfl ?_)
        refine call_ Tryz.func29 rfl rfl (hc) rfl (by repeat (first | exact .refl _ | apply Les.cons | exact .nil)) rfl ?_
        repeat (first | refine seq_ ?_ | refine region_ ?_ | refine nil_ ?_ | refine skip_ ?_ | refine cond_t rfl ?_ | refine cond_f rfl ?_ | refine guard_t rfl rfl rfl ?_ | refine guard_f rfl rfl rfl rfl ?_ | refine stepY (y_move rfl) rfl ?_ | refine stepY (y_assign rfl) rfl ?_ | refine stepY (y_load1 rfl rfl rfl) rfl ?_ | refine stepY (y_fieldAddr rfl) rfl ?_ | refine stepY (y_extract rfl rfl) rfl ?_ | refine stepY (y_pick_t rfl rfl) rfl ?_ | refine stepY (y_cmpF rfl rfl rfl (by omega)) rfl ?_ | refine stepE (e_bs_vi (k := .u32) rfl rfl rfl rfl rfl) ?_)
        refine seal_L (i := 69) (h := 69) rfl rfl rfl rfl ?_
        refine call_ Tryz.func48 rfl rfl (h1m) rfl (by repeat (first | exact .refl _ | exact .tag _ _ | exact .nil _ _ | apply Les.cons | exact .nil)) rfl ?_
        repeat (first | refine nil_ ?_ | refine ret_ ?_ | refine stepY (y_assign rfl) rfl ?_ | refine stepY (y_extract rfl rfl) rfl ?_ | refine stepE (e_store rfl rfl rfl rfl rfl rfl rfl) ?_)
        ((apply fin_r); (repeat (first | exact .nil | exact .tmp rfl | exact .agg rfl rfl rfl | apply ResL.cons)); (repeat (exact .refl _)))
      · have e1 : decide (x.num < 0) = false := decide_eq_false h3
        rw [e1] at hv hc ⊢
        have hz : ln x.num.natAbs = 0 := by rw [show x.num.natAbs = 0 by omega]; rfl
        refine con_of Tryz.func23 rfl rfl rfl rfl rfl ?_
        repeat (first | refine seq_ ?_ | refine region_ ?_ | refine nil_ ?_ | refine stepY (y_assign rfl) rfl ?_ | refine stepY (y_loadA rfl rfl rfl) rfl ?_ | refine stepE (e_box rfl rfl rfl rfl rfl rfl) ?_ | refine stepE (e_alloc rfl rfl rfl) ?_)
        refine call_ Tryz.func20 rfl rfl (hv) rfl (by repeat (first | exact .refl _ | apply Les.cons | exact .nil)) rfl ?_
        repeat (first | refine guard_t rfl rfl rfl ?_ | refine stepY (y_move rfl) rfl ?_ | refine stepY (y_loadA rfl rfl rfl) rfl ?_ | refine stepY (y_not rfl) rfl ?_)
        refine call_ Tryz.func20 rfl rfl (hv2) rfl (by repeat (first | exact .refl _ | apply Les.cons | exact .nil)) rfl ?_
        repeat (first | refine seq_ ?_ | refine region_ ?_ | refine nil_ ?_ | refine skip_ ?_ | refine cond_f rfl ?_ | refine guard_t rfl rfl rfl ?_ | refine stepY (y_loadA rfl rfl rfl) rfl ?_ | refine stepY (y_not rfl) rfl ?_ | refine stepY (y_pick_f rfl rfl) rfl ?_)
        refine call_ Tryz.func29 rfl rfl (hc) rfl (by repeat (first | exact .refl _ | apply Les.cons | exact .nil)) rfl ?_
        repeat (first | refine seq_ ?_ | refine region_ ?_ | refine nil_ ?_ | refine skip_ ?_ | refine cond_t rfl ?_ | refine cond_f rfl ?_ | refine guard_t rfl rfl rfl ?_ | refine guard_f rfl rfl rfl rfl ?_ | refine stepY (y_move rfl) rfl ?_ | refine stepY (y_assign rfl) rfl ?_ | refine stepY (y_load1 rfl rfl rfl) rfl ?_ | refine stepY (y_fieldAddr rfl) rfl ?_ | refine stepY (y_extract rfl rfl) rfl ?_ | refine stepY (y_len_si rfl) rfl ?_ | refine stepY (y_pick_f rfl rfl) rfl ?_ | refine stepY (y_cmpT rfl rfl rfl (by omega)) rfl ?_ | refine stepY (y_cmpF rfl rfl rfl (by omega)) rfl ?_ | refine stepE (e_bs_vi (k := .u32) rfl rfl rfl rfl rfl) ?_)
        refine seal_L (i := 69) (h := 69) rfl rfl rfl rfl ?_
        refine call_ Tryz.func48 rfl rfl (h1m) rfl (by repeat (first | exact .refl _ | exact .tag _ _ | exact .nil _ _ | apply Les.cons | exact .nil)) rfl ?_
        repeat (first | refine nil_ ?_ | refine ret_ ?_ | refine stepY (y_assign rfl) rfl ?_ | refine stepY (y_extract rfl rfl) rfl ?_ | refine stepE (e_store rfl rfl rfl rfl rfl rfl rfl) ?_)
        ((apply fin_r); (repeat (first | exact .nil | exact .tmp rfl | exact .agg rfl rfl rfl | apply ResL.cons)); (repeat (exact .refl _)))
    · have hx0 : x.num < 0 := by
        rcases (by omega : x.num < 0 ∨ 0 ≤ x.num) with h3 | h3
        · exact h3
        · have h3 := (Rat.le_iff _ _).1 h
          have h4 : 0 ≤ x.num * y.den := Int.mul_nonneg (by omega) (by omega)
          have h5 : y.num * x.den < 0 := Int.mul_neg_of_neg_of_pos (by omega) (by have := Nat.pos_of_ne_zero x.den_nz; omega)
          omega
      have hsm : smp x y = -(sqr y.num.natAbs y.den x.num.natAbs x.den) := by unfold smp; rw [if_neg h1, if_neg h2]
      have g := gd_neg (by omega) h
      have hS := simplest3_c (y.den + x.den + 1) _ _ _ _ (by omega) g (by omega) hy.1 hy.2 hx.1 hx.2
      have hM := sqr_made true g (by omega) hy.1 hy.2
      simp only [if_true] at hM
      rw [← hsm] at hM
      have e1 : decide (x.num < 0) = true := decide_eq_true hx0
      have e2 : decide (y.num < 0) = true := decide_eq_true (by omega)
      unfold QV at hc ⊢
      rw [e1] at hv hc ⊢
      rw [e2] at hv2 hc ⊢
      generalize sq y.num.natAbs y.den x.num.natAbs x.den = s at *
      refine con_of Tryz.func23 rfl rfl rfl rfl rfl ?_
      repeat (first | refine seq_ ?_ | refine region_ ?_ | refine nil_ ?_ | refine stepY (y_assign rfl) rfl ?_ | refine stepY (y_loadA rfl rfl rfl) rfl ?_ | refine stepE (e_box rfl rfl rfl rfl rfl rfl) ?_ | refine stepE (e_alloc rfl rfl rfl) ?_)
      refine call_ Tryz.func20 rfl rfl (hv) rfl (by repeat (first | exact .refl _ | apply Les.cons | exact .nil)) rfl ?_
      repeat (first | refine guard_t rfl rfl rfl ?_ | refine stepY (y_move rfl) rfl ?_ | refine stepY (y_loadA rfl rfl rfl) rfl ?_ | refine stepY (y_not rfl) rfl ?_)
      refine call_ Tryz.func20 rfl rfl (hv2) rfl (by repeat (first | exact .refl _ | apply Les.cons | exact .nil)) rfl ?_
      repeat (first | refine seq_ ?_ | refine region_ ?_ | refine nil_ ?_ | refine skip_ ?_ | refine cond_f rfl ?_ | refine guard_t rfl rfl rfl ?_ | refine stepY (y_loadA rfl rfl rfl) rfl ?_ | refine stepY (y_not rfl) rfl ?_ | refine stepY (y_pick_f rfl rfl) rfl ?_)
      refine call_ Tryz.func29 rfl rfl (hc) rfl (by repeat (first | exact .refl _ | apply Les.cons | exact .nil)) rfl ?_
      repeat (first | refine seq_ ?_ | refine region_ ?_ | refine nil_ ?_ | refine skip_ ?_ | refine cond_t rfl ?_ | refine cond_f rfl ?_ | refine guard_t rfl rfl rfl ?_ | refine stepY (y_move rfl) rfl ?_ | refine stepY (y_assign rfl) rfl ?_ | refine stepY (y_load1 rfl rfl rfl) rfl ?_ | refine stepY (y_fieldAddr rfl) rfl ?_ | refine stepY (y_extract rfl rfl) rfl ?_ | refine stepY (y_pick_t rfl rfl) rfl ?_ | refine stepY (y_cmpF rfl rfl rfl (by omega)) rfl ?_)
      refine call_ Tryz.func68 rfl rfl (hS) rfl (by repeat (first | exact .refl _ | apply Les.cons | exact .nil)) rfl ?_
      repeat (first | refine seq_ ?_ | refine region_ ?_ | refine nil_ ?_ | refine stepY (y_move rfl) rfl ?_ | refine stepY (y_assign rfl) rfl ?_ | refine stepY (y_extract rfl rfl) rfl ?_)
      refine call_ Tryz.func48 rfl rfl (hM) rfl (by repeat (first | exact .refl _ | apply Les.cons | exact .nil)) rfl ?_
      repeat (first | refine nil_ ?_ | refine ret_ ?_ | refine stepY (y_assign rfl) rfl ?_ | refine stepY (y_extract rfl rfl) rfl ?_ | refine stepE (e_store rfl rfl rfl rfl rfl rfl rfl) ?_)
      ((apply fin_r); (repeat (first | exact .nil | exact .tmp rfl | exact .agg rfl rfl rfl | apply ResL.cons)); (repeat (exact .refl _)))
theorem Simplest_pair (p p' : Bool) (l l' : List Int) (q q' : Bool) (k k' : List Int) (hl : wf l) (hk : wf k) (hl' : wf l') (hk' : wf k') : Pair 22 23 [AF p l q k, AF p' l' q' k'] := by
  cases hv : vldF p l q k && vldF p' l' q' k' with
  | false => exact .err 1 (Simplest_e p p' l l' q q' k k' hl hk hl' hk' hv) (RSimplest_e p p' l l' q q' k k' hl hk hl' hk' hv)
  | true =>
    rw [Bool.and_eq_true] at hv
    obtain ⟨x, hx, rfl, rfl, rfl, rfl⟩ := vldF_q hl hk hv.1
    obtain ⟨y, hy, rfl, rfl, rfl, rfl⟩ := vldF_q hl' hk' hv.2
    by_cases h : x ≤ y
    · exact ⟨_, _, _, _, Simplest_q x y hx hy h, RSimplest_q x y hx hy h⟩
    · exact .err 3 (Simplest_r x y hx hy (Rat.not_le.1 h)) (RSimplest_r x y hx hy (Rat.not_le.1 h))
theorem FSimplest_c (p p' : Bool) (l l' : List Int) (q q' : Bool) (k k' : List Int) (hl : wf l) (hk : wf k) (hl' : wf l') (hk' : wf k') : Con Tryz.prog 5 [AF p l q k, AF p' l' q' k'] (Bo true) := by
  have hs := small_c p l q k
  have hs2 := small_c p' l' q' k'
  refine con_of Tryz.func5 rfl rfl rfl rfl rfl ?_
  by_cases h : l.length ≤ 8 ∧ k.length ≤ 8
  · rw [decide_eq_true h] at hs
    by_cases h2 : l'.length ≤ 8 ∧ k'.length ≤ 8
    · rw [decide_eq_true h2] at hs2
      obtain ⟨p1, m1, d1, e1, a1, a2⟩ := Simplest_pair p p' l l' q q' k k' hl hk hl' hk'
      have k1 := like_m p1 m1 d1 e1
      repeat (first | refine seq_ ?_ | refine region_ ?_ | refine nil_ ?_ | refine stepY (y_assign rfl) rfl ?_ | refine stepY (y_loadA rfl rfl rfl) rfl ?_ | refine stepE (e_box rfl rfl rfl rfl rfl rfl) ?_)
      refine call_ Tryz.func9 rfl rfl (hs) rfl (by repeat (first | exact .refl _ | apply Les.cons | exact .nil)) rfl ?_
      repeat (first | refine guard_t rfl rfl rfl ?_ | refine stepY (y_move rfl) rfl ?_ | refine stepY (y_loadA rfl rfl rfl) rfl ?_ | refine stepY (y_not rfl) rfl ?_)
      refine call_ Tryz.func9 rfl rfl (hs2) rfl (by repeat (first | exact .refl _ | apply Les.cons | exact .nil)) rfl ?_
      repeat (first | refine seq_ ?_ | refine region_ ?_ | refine nil_ ?_ | refine skip_ ?_ | refine cond_f rfl ?_ | refine guard_t rfl rfl rfl ?_ | refine stepY (y_loadA rfl rfl rfl) rfl ?_ | refine stepY (y_not rfl) rfl ?_ | refine stepY (y_pick_f rfl rfl) rfl ?_)
      refine call_ Tryz.func22 rfl rfl (a1) rfl (by repeat (first | exact .refl _ | apply Les.cons | exact .nil)) rfl ?_
      repeat (first | refine seq_ ?_ | refine region_ ?_ | refine nil_ ?_ | refine stepY (y_move rfl) rfl ?_ | refine stepY (y_assign rfl) rfl ?_ | refine stepY (y_loadA rfl rfl rfl) rfl ?_ | refine stepY (y_extract rfl rfl) rfl ?_ | refine stepE (e_alloc rfl rfl rfl) ?_ | refine stepE (e_store rfl rfl rfl rfl rfl rfl rfl) ?_)
      refine call_ Tryz.func23 rfl rfl (a2) rfl (by repeat (first | exact .refl _ | apply Les.cons | exact .nil)) rfl ?_
      repeat (first | refine seq_ ?_ | refine region_ ?_ | refine nil_ ?_ | refine stepY (y_move rfl) rfl ?_ | refine stepY (y_assign rfl) rfl ?_ | refine stepY (y_loadA rfl rfl rfl) rfl ?_ | refine stepY (y_extract rfl rfl) rfl ?_ | refine stepE (e_alloc rfl rfl rfl) ?_ | refine stepE (e_store rfl rfl rfl rfl rfl rfl rfl) ?_)
      refine call_ Tryz.func15 rfl rfl (k1) rfl (by repeat (first | exact .refl _ | exact .tag _ _ | apply Le.ag | apply Les.cons | exact .nil)) rfl ?_
      repeat (first | refine guard_t rfl rfl rfl ?_ | refine stepY (y_move rfl) rfl ?_)
      refine call_ Tryz.func10 rfl rfl (exampleHolds_c) rfl (by repeat (exact .nil)) rfl ?_
      repeat (first | refine nil_ ?_ | refine ret_ ?_ | refine stepY (y_assign rfl) rfl ?_ | refine stepY (y_pick_t rfl rfl) rfl ?_)
      ((apply fin_r); (repeat (first | exact .nil | exact .tmp rfl | apply ResL.cons)); (repeat (exact .refl _)))
    · rw [decide_eq_false h2] at hs2
      repeat (first | refine seq_ ?_ | refine region_ ?_ | refine nil_ ?_ | refine stepY (y_assign rfl) rfl ?_ | refine stepY (y_loadA rfl rfl rfl) rfl ?_ | refine stepE (e_box rfl rfl rfl rfl rfl rfl) ?_)
      refine call_ Tryz.func9 rfl rfl (hs) rfl (by repeat (first | exact .refl _ | apply Les.cons | exact .nil)) rfl ?_
      repeat (first | refine guard_t rfl rfl rfl ?_ | refine stepY (y_move rfl) rfl ?_ | refine stepY (y_loadA rfl rfl rfl) rfl ?_ | refine stepY (y_not rfl) rfl ?_)
      refine call_ Tryz.func9 rfl rfl (hs2) rfl (by repeat (first | exact .refl _ | apply Les.cons | exact .nil)) rfl ?_
      repeat (first | refine seq_ ?_ | refine region_ ?_ | refine nil_ ?_ | refine cond_t rfl ?_ | refine guard_t rfl rfl rfl ?_ | refine stepY (y_not rfl) rfl ?_ | refine stepY (y_pick_f rfl rfl) rfl ?_)
      refine call_ Tryz.func10 rfl rfl (exampleHolds_c) rfl (by repeat (exact .nil)) rfl ?_
      repeat (first | refine nil_ ?_ | refine ret_ ?_ | refine stepY (y_assign rfl) rfl ?_)
      ((apply fin_r); (repeat (first | exact .nil | exact .tmp rfl | apply ResL.cons)); (repeat (exact .refl _)))
  · rw [decide_eq_false h] at hs
    repeat (first | refine seq_ ?_ | refine region_ ?_ | refine nil_ ?_ | refine stepY (y_assign rfl) rfl ?_ | refine stepY (y_loadA rfl rfl rfl) rfl ?_ | refine stepE (e_box rfl rfl rfl rfl rfl rfl) ?_)
    refine call_ Tryz.func9 rfl rfl (hs) rfl (by repeat (first | exact .refl _ | apply Les.cons | exact .nil)) rfl ?_
    repeat (first | refine seq_ ?_ | refine region_ ?_ | refine nil_ ?_ | refine cond_t rfl ?_ | refine guard_f rfl rfl rfl rfl ?_ | refine stepY (y_move rfl) rfl ?_ | refine stepY (y_not rfl) rfl ?_ | refine stepY (y_pick_t rfl rfl) rfl ?_)
    refine call_ Tryz.func10 rfl rfl (exampleHolds_c) rfl (by repeat (exact .nil)) rfl ?_
    repeat (first | refine nil_ ?_ | refine ret_ ?_ | refine stepY (y_assign rfl) rfl ?_)
    ((apply fin_r); (repeat (first | exact .nil | exact .tmp rfl | apply ResL.cons)); (repeat (exact .refl _)))
end Go.Av
