import Derived.Test.YtckngipgcnhfpaaWd
set_option maxHeartbeats 16000000
set_option exponentiation.threshold 100000
set_option maxRecDepth 100000
set_option linter.unusedVariables false
set_option linter.unusedSimpArgs false
namespace Go.Av
open Go Go.Proofs
/-! BigintEuclid -/
theorem fiv_nat (n : Nat) : FIV ((n : Nat) : Int) = .ag [Bo false, FM n] := by
  unfold FIV
  rw [Int.natAbs_natCast, decide_eq_false (by omega)]
theorem same_sv (p : Bool) (m : Nat) : Con Try.prog 19 [SV p m, SV p m] (Bo true) := by
  have := same_c p p (limbs m) (limbs m)
  rwa [decide_eq_true ⟨rfl, rfl⟩] at this
theorem magnitude_c (p : Bool) (m : Nat) (hp : vldB p (limbs m) = true) : Con Try.prog 50 [SV p m] (SV false m) := by
  refine con_of Try.func50 rfl rfl rfl rfl rfl ?_
  cases p with
  | false =>
    repeat (first | refine seq_ ?_ | refine region_ ?_ | refine nil_ ?_ | refine skip_ ?_ | refine ret_ ?_ | refine cond_f rfl ?_ | (first | refine stepY (y_load1 rfl rfl rfl) rfl ?_ | refine stepY (y_loadA rfl rfl rfl) rfl ?_) | refine stepY (y_fieldAddr rfl) rfl ?_ | refine stepE (e_box rfl rfl rfl rfl rfl rfl) ?_ | refine stepE (e_alloc rfl rfl rfl) ?_ | refine stepE (e_store rfl rfl rfl rfl rfl rfl rfl) ?_)
    ((apply fin_r); (repeat (first | exact .nil | exact .agg rfl rfl rfl | apply ResL.cons)); (repeat (exact .refl _)))
  | true =>
    have hn := Neg_s true m hp
    rw [show -sgn true m = ((m : Nat) : Int) by simp [sgn], fiv_nat] at hn
    repeat (first | refine seq_ ?_ | refine region_ ?_ | refine nil_ ?_ | refine cond_t rfl ?_ | (first | refine stepY (y_load1 rfl rfl rfl) rfl ?_ | refine stepY (y_loadA rfl rfl rfl) rfl ?_) | refine stepY (y_fieldAddr rfl) rfl ?_ | refine stepE (e_box rfl rfl rfl rfl rfl rfl) ?_ | refine stepE (e_alloc rfl rfl rfl) ?_)
    refine call_ Try.func43 rfl rfl hn rfl (by repeat (first | exact .refl _ | apply Les.cons | exact .nil)) rfl ?_
    repeat (first | refine nil_ ?_ | refine ret_ ?_ | refine stepE (e_store rfl rfl rfl rfl rfl rfl rfl) ?_)
    ((apply fin_r); (repeat (first | exact .nil | exact .agg rfl rfl rfl | apply ResL.cons)); (repeat (first | exact .refl _ | exact .tag _ _ | apply Le.ag | apply Les.cons | exact .nil)))
theorem divides_c (g m : Nat) (p : Bool) (hg : vldB false (limbs g) = true) (hp : vldB p (limbs m) = true) (h : g ∣ m) : Con Try.prog 49 [SV false g, SV p m] (Bo true) := by
  refine con_of Try.func49 rfl rfl rfl rfl rfl ?_
  have hlg : ((limbs g).length : Int) = ln g := by rw [limbs_length]
  have hl0 : ((limbs 0).length : Int) = 0 := rfl
  by_cases h0 : g = 0
  · subst h0
    have : m = 0 := Nat.eq_zero_of_zero_dvd h
    subst this
    repeat (first | refine seq_ ?_ | refine region_ ?_ | refine nil_ ?_ | refine ret_ ?_ | refine cond_t rfl ?_ | refine stepY (y_assign rfl) rfl ?_ | refine stepY (y_load1 rfl rfl rfl) rfl ?_ | refine stepY (y_fieldAddr rfl) rfl ?_ | refine stepY (y_len_si rfl) rfl ?_ | refine stepY (y_cmpT rfl rfl rfl (by omega)) rfl ?_ | refine stepE (e_box rfl rfl rfl rfl rfl rfl) ?_)
    ((apply fin_r); (repeat (first | exact .nil | exact .tmp rfl | apply ResL.cons)); (repeat (exact .refl _)))
  · have hg1 := ln_pos.2 (Nat.pos_of_ne_zero h0)
    have hd := DivMod_s p false m g hp hg (Nat.pos_of_ne_zero h0)
    rw [dr_ra, ra_dvd h, show sgn false 0 = ((0 : Nat) : Int) from rfl, fiv_nat] at hd
    repeat (first | refine seq_ ?_ | refine region_ ?_ | refine nil_ ?_ | refine skip_ ?_ | refine cond_f rfl ?_ | refine stepY (y_assign rfl) rfl ?_ | (first | refine stepY (y_load1 rfl rfl rfl) rfl ?_ | refine stepY (y_loadA rfl rfl rfl) rfl ?_) | refine stepY (y_fieldAddr rfl) rfl ?_ | refine stepY (y_len_si rfl) rfl ?_ | refine stepY (y_cmpF rfl rfl rfl (by omega)) rfl ?_ | refine stepE (e_box rfl rfl rfl rfl rfl rfl) ?_)
    refine call_ Try.func15 rfl rfl hd rfl (by repeat (first | exact .refl _ | apply Les.cons | exact .nil)) rfl ?_
    repeat (first | refine seq_ ?_ | refine region_ ?_ | refine nil_ ?_ | refine ret_ ?_ | refine guard_t rfl rfl rfl ?_ | refine stepY (y_move rfl) rfl ?_ | refine stepY (y_assign rfl) rfl ?_ | refine stepY (y_load1 rfl rfl rfl) rfl ?_ | refine stepY (y_fieldAddr rfl) rfl ?_ | refine stepY (y_extract rfl rfl) rfl ?_ | refine stepY (y_len_si rfl) rfl ?_ | refine stepY (y_pick_t rfl rfl) rfl ?_ | refine stepY (y_cmpT rfl rfl rfl (by omega)) rfl ?_ | refine stepE (e_alloc rfl rfl rfl) ?_ | refine stepE (e_store rfl rfl rfl rfl rfl rfl rfl) ?_)
    ((apply fin_r); (repeat (first | exact .nil | exact .tmp rfl | apply ResL.cons)); (repeat (exact .refl _)))
theorem dq_ln {p q : Bool} {m n : Nat} (hm : ln m ≤ 512) (hn : 0 < n) : ln (dq p q m n).natAbs ≤ 512 := by
  refine Nat.le_trans (ln_mono ?_) hm
  unfold dq
  split
  · rename_i h
    rw [sgn_abs]
    have h1 := Nat.mod_lt m hn
    have h2 : 2 ≤ n := by omega
    have h3 : m / n ≤ m / 2 := Nat.div_le_div_left h2 (by decide)
    have h4 : 0 < m := by
      rcases Nat.eq_zero_or_pos m with h5 | h5
      · subst h5; rw [Nat.zero_mod] at h; omega
      · exact h5
    omega
  · rw [sgn_abs]
    exact Nat.div_le_self m n
theorem Euclid_e (p q : Bool) (l k : List Int) (h : (vldB p l && vldB q k) = false) : Con Try.prog 14 [AV p l, AV q k] (Bo true) := by
  refine con_of Try.func14 rfl rfl rfl rfl rfl ?_
  have v1 := Valid_c p l
  have v2 := Valid_c q k
  cases hp : vldB p l with
  | false =>
    rw [hp] at v1
    repeat (first | refine seq_ ?_ | refine region_ ?_ | refine nil_ ?_ | refine stepY (y_assign rfl) rfl ?_ | refine stepY (y_loadA rfl rfl rfl) rfl ?_ | refine stepE (e_box rfl rfl rfl rfl rfl rfl) ?_)
    refine call_ Try.func29 rfl rfl v1 rfl (by repeat (first | exact .refl _ | apply Les.cons | exact .nil)) rfl ?_
    repeat (first | refine seq_ ?_ | refine region_ ?_ | refine nil_ ?_ | refine cond_t rfl ?_ | refine guard_f rfl rfl rfl rfl ?_ | refine stepY (y_move rfl) rfl ?_ | refine stepY (y_not rfl) rfl ?_ | refine stepY (y_pick_t rfl rfl) rfl ?_)
    refine call_ Try.func20 rfl rfl examples_c rfl (by repeat (exact .nil)) rfl ?_
    repeat (first | refine nil_ ?_ | refine ret_ ?_ | refine stepY (y_assign rfl) rfl ?_)
    ((apply fin_r); (repeat (first | exact .nil | exact .tmp rfl | apply ResL.cons)); (repeat (exact .refl _)))
  | true =>
    rw [hp] at v1 h
    rw [Bool.true_and] at h
    rw [h] at v2
    repeat (first | refine seq_ ?_ | refine region_ ?_ | refine nil_ ?_ | refine stepY (y_assign rfl) rfl ?_ | refine stepY (y_loadA rfl rfl rfl) rfl ?_ | refine stepE (e_box rfl rfl rfl rfl rfl rfl) ?_)
    refine call_ Try.func29 rfl rfl v1 rfl (by repeat (first | exact .refl _ | apply Les.cons | exact .nil)) rfl ?_
    repeat (first | refine guard_t rfl rfl rfl ?_ | refine stepY (y_move rfl) rfl ?_ | refine stepY (y_loadA rfl rfl rfl) rfl ?_ | refine stepY (y_not rfl) rfl ?_)
    refine call_ Try.func29 rfl rfl v2 rfl (by repeat (first | exact .refl _ | apply Les.cons | exact .nil)) rfl ?_
    repeat (first | refine seq_ ?_ | refine region_ ?_ | refine nil_ ?_ | refine cond_t rfl ?_ | refine guard_t rfl rfl rfl ?_ | refine stepY (y_not rfl) rfl ?_ | refine stepY (y_pick_f rfl rfl) rfl ?_)
    refine call_ Try.func20 rfl rfl examples_c rfl (by repeat (exact .nil)) rfl ?_
    repeat (first | refine nil_ ?_ | refine ret_ ?_ | refine stepY (y_assign rfl) rfl ?_)
    ((apply fin_r); (repeat (first | exact .nil | exact .tmp rfl | apply ResL.cons)); (repeat (exact .refl _)))
theorem Euclid_s (p q : Bool) (m n : Nat) (hp : vldB p (limbs m) = true) (hq : vldB q (limbs n) = true) : Con Try.prog 14 [SV p m, SV q n] (Bo true) := by
  refine con_of Try.func14 rfl rfl rfl rfl rfl ?_
  have v1 := Valid_c p (limbs m)
  have v2 := Valid_c q (limbs n)
  rw [hp] at v1
  rw [hq] at v2
  have hlm := vld_ln hp
  have hln := vld_ln hq
  have hlg := gcd_ln hlm hln
  have hvg : vldB false (limbs (Nat.gcd m n)) = true := by
    have := vld_iv (z := ((Nat.gcd m n : Nat) : Int)) (by rw [Int.natAbs_natCast]; exact hlg)
    rwa [Int.natAbs_natCast, decide_eq_false (by omega)] at this
  have g1 := GCD_s p q m n hp hq
  have g2 := GCD_s q p n m hq hp
  rw [fiv_nat] at g1
  rw [fiv_nat, Nat.gcd_comm] at g2
  have sg1 := same_sv false (Nat.gcd m n)
  have da := divides_c _ m p hvg hp (Nat.gcd_dvd_left m n)
  have db := divides_c _ n q hvg hq (Nat.gcd_dvd_right m n)
  have hlnn : ((limbs n).length : Int) = ln n := by rw [limbs_length]
  by_cases h0 : n = 0
  · subst h0
    have hl0 : ln 0 = 0 := rfl
    have hd := DivMod_z p q m hp hq
    have mm := magnitude_c p m hp
    rw [Nat.gcd_zero_right] at *
    repeat (first | refine seq_ ?_ | refine region_ ?_ | refine nil_ ?_ | refine stepY (y_assign rfl) rfl ?_ | refine stepY (y_loadA rfl rfl rfl) rfl ?_ | refine stepE (e_box rfl rfl rfl rfl rfl rfl) ?_)
    refine call_ Try.func29 rfl rfl v1 rfl (by repeat (first | exact .refl _ | apply Les.cons | exact .nil)) rfl ?_
    repeat (first | refine guard_t rfl rfl rfl ?_ | refine stepY (y_move rfl) rfl ?_ | refine stepY (y_loadA rfl rfl rfl) rfl ?_ | refine stepY (y_not rfl) rfl ?_)
    refine call_ Try.func29 rfl rfl v2 rfl (by repeat (first | exact .refl _ | apply Les.cons | exact .nil)) rfl ?_
    repeat (first | refine seq_ ?_ | refine region_ ?_ | refine nil_ ?_ | refine skip_ ?_ | refine cond_f rfl ?_ | refine guard_t rfl rfl rfl ?_ | refine stepY (y_loadA rfl rfl rfl) rfl ?_ | refine stepY (y_not rfl) rfl ?_ | refine stepY (y_pick_f rfl rfl) rfl ?_)
    refine call_ Try.func17 rfl rfl g1 rfl (by repeat (first | exact .refl _ | apply Les.cons | exact .nil)) rfl ?_
    repeat (first | refine seq_ ?_ | refine region_ ?_ | refine nil_ ?_ | refine stepY (y_move rfl) rfl ?_ | refine stepY (y_assign rfl) rfl ?_ | refine stepY (y_loadA rfl rfl rfl) rfl ?_ | refine stepY (y_extract rfl rfl) rfl ?_ | refine stepE (e_alloc rfl rfl rfl) ?_ | refine stepE (e_store rfl rfl rfl rfl rfl rfl rfl) ?_)
    refine call_ Try.func17 rfl rfl g2 rfl (by repeat (first | exact .refl _ | apply Les.cons | exact .nil)) rfl ?_
    repeat (first | refine seq_ ?_ | refine region_ ?_ | refine nil_ ?_ | refine guard_t rfl rfl rfl ?_ | refine stepY (y_move rfl) rfl ?_ | refine stepY (y_assign rfl) rfl ?_ | refine stepY (y_loadA rfl rfl rfl) rfl ?_ | refine stepY (y_extract rfl rfl) rfl ?_ | refine stepY (y_pick_f rfl rfl) rfl ?_ | refine stepY (y_cmpF rfl rfl rfl (by omega)) rfl ?_ | refine stepE (e_alloc rfl rfl rfl) ?_ | refine stepE (e_store rfl rfl rfl rfl rfl rfl rfl) ?_)
    refine call_ Try.func19 rfl rfl sg1 rfl (by repeat (first | exact .refl _ | exact .tag _ _ | apply Le.ag | apply Les.cons | exact .nil)) rfl ?_
    repeat (first | refine guard_t rfl rfl rfl ?_ | refine stepY (y_move rfl) rfl ?_ | (first | refine stepY (y_load1 rfl rfl rfl) rfl ?_ | refine stepY (y_loadA rfl rfl rfl) rfl ?_) | refine stepY (y_fieldAddr rfl) rfl ?_ | refine stepY (y_not rfl) rfl ?_ | refine stepY (y_pick_f rfl rfl) rfl ?_)
    refine call_ Try.func49 rfl rfl da rfl (by repeat (first | exact .refl _ | exact .tag _ _ | apply Le.ag | apply Les.cons | exact .nil)) rfl ?_
    repeat (first | refine guard_t rfl rfl rfl ?_ | refine stepY (y_move rfl) rfl ?_ | refine stepY (y_loadA rfl rfl rfl) rfl ?_ | refine stepY (y_not rfl) rfl ?_ | refine stepY (y_pick_f rfl rfl) rfl ?_)
    refine call_ Try.func49 rfl rfl db rfl (by repeat (first | exact .refl _ | exact .tag _ _ | apply Le.ag | apply Les.cons | exact .nil)) rfl ?_
    repeat (first | refine seq_ ?_ | refine region_ ?_ | refine nil_ ?_ | refine skip_ ?_ | refine cond_f rfl ?_ | refine guard_t rfl rfl rfl ?_ | refine stepY (y_loadA rfl rfl rfl) rfl ?_ | refine stepY (y_not rfl) rfl ?_ | refine stepY (y_pick_f rfl rfl) rfl ?_)
    refine call_ Try.func15 rfl rfl hd rfl (by repeat (first | exact .refl _ | apply Les.cons | exact .nil)) rfl ?_
    repeat (first | refine seq_ ?_ | refine region_ ?_ | refine nil_ ?_ | refine cond_t rfl ?_ | refine stepY (y_move rfl) rfl ?_ | refine stepY (y_assign rfl) rfl ?_ | refine stepY (y_load1 rfl rfl rfl) rfl ?_ | refine stepY (y_fieldAddr rfl) rfl ?_ | refine stepY (y_extract rfl rfl) rfl ?_ | refine stepY (y_len_si rfl) rfl ?_ | refine stepY (y_cmpT rfl rfl rfl (by omega)) rfl ?_ | refine stepE (e_alloc rfl rfl rfl) ?_ | refine stepE (e_store rfl rfl rfl rfl rfl rfl rfl) ?_)
    refine draw_ [(0, true), (1, true), (2, true), (3, true), (4, true), (5, false), (6, false), (7, true), (8, true), (9, false), (10, true), (11, true)] 1000 [2,5] mixed (by kernel_rfl) rfl ?_
    ((refine dY rfl (y_move rfl) rfl rfl rfl rfl ?_); refine dY rfl (y_cmpT rfl rfl rfl (by omega)) rfl rfl rfl rfl ?_; refine dY rfl (y_move rfl) rfl rfl rfl rfl ?_; refine dY rfl (y_loadA rfl rfl rfl) rfl rfl rfl rfl ?_; refine dY rfl (y_loadA rfl rfl rfl) rfl rfl rfl rfl ?_)
    refine dC rfl Try.func50 rfl rfl mm rfl (by repeat (first | exact .refl _ | apply Les.cons | exact .nil)) rfl rfl ?_
    skip
    refine dC rfl Try.func19 rfl rfl sg1 rfl (by repeat (first | exact .refl _ | exact .tag _ _ | apply Le.ag | apply Les.cons | exact .nil)) rfl rfl ?_
    ((refine dY rfl (y_pick_t rfl rfl) rfl rfl rfl rfl ?_); refine dY rfl (y_move rfl) rfl rfl rfl rfl ?_)
    refine dC rfl Try.func20 rfl rfl examples_c rfl (by repeat (exact .nil)) rfl rfl ?_
    ((refine dY rfl (y_pick_t rfl rfl) rfl rfl rfl rfl ?_); refine dY rfl (y_assign rfl) rfl rfl rfl rfl ?_; refine dEnd ?_)
    repeat (refine ret_ ?_)
    ((apply fin_r); (repeat (first | exact .nil | exact .tmp rfl | apply ResL.cons)); (repeat (exact .refl _)))
  · have hn0 := Nat.pos_of_ne_zero h0
    have hn1 := ln_pos.2 hn0
    have hd := DivMod_s p q m n hp hq hn0
    have hid := div_id p q m n hn0
    have hrl := ra_lt (p := p) (q := q) (m := m) hn0
    have hrg := ra_gcd (p := p) (q := q) (m := m) hn0
    have hQ := dq_ln (p := p) (q := q) hlm hn0
    have hlr : ln (ra p q m n) ≤ 512 := Nat.le_trans (ln_mono (Nat.le_of_lt hrl)) hln
    have hR : ln (sgn q (ra p q m n)).natAbs ≤ 512 := by rw [sgn_abs]; exact hlr
    have hvr := vld_iv hR
    rw [dr_ra] at hd hid
    rw [sgn_abs, sgn_neg] at hvr
    have eR : FIV (sgn q (ra p q m n)) = .ag [Bo (q && decide (0 < ra p q m n)), FM (ra p q m n)] := by unfold FIV; rw [sgn_abs, sgn_neg]
    have hmul := Mul_s (decide (dq p q m n < 0)) q (dq p q m n).natAbs n (vld_iv hQ) hq
    rw [sgn_self] at hmul
    obtain ⟨P', e, hP, eP, P0, P1⟩ := resI_ex (dq p q m n * sgn q n)
    rw [eP] at hmul
    have hadd := Add_z P' (sgn q (ra p q m n)) hP hR
    have hAA : ln (sgn p m).natAbs ≤ 512 := by rw [sgn_abs]; exact hlm
    have hsa : Con Try.prog 19 [IV (sgn p m), SV p m] (Bo true) := by
      have h1 := same_r (sgn p m)
      have h2 : AV p (limbs m) = IV (sgn p (val (limbs m))) := (iv_vld (wf_limbs m) hp).1
      rw [val_limbs] at h2
      rw [show SV p m = IV (sgn p m) from h2]
      exact h1
    have gu := GCD_s q (q && decide (0 < ra p q m n)) n (ra p q m n) hq hvr
    rw [fiv_nat, hrg] at gu
    have mr := magnitude_c _ _ hvr
    have mb := magnitude_c q n hq
    have hvr0 : vldB false (limbs (ra p q m n)) = true := by
      have := vld_iv (z := ((ra p q m n : Nat) : Int)) (by rw [Int.natAbs_natCast]; exact hlr)
      rwa [Int.natAbs_natCast, decide_eq_false (by omega)] at this
    have hvn0 : vldB false (limbs n) = true := by
      have := vld_iv (z := ((n : Nat) : Int)) (by rw [Int.natAbs_natCast]; exact hln)
      rwa [Int.natAbs_natCast, decide_eq_false (by omega)] at this
    have cm := Cmp_s false false (ra p q m n) n hvr0 hvn0
    rw [show sgn false (ra p q m n) = ((ra p q m n : Nat) : Int) from rfl, show sgn false n = (n : Int) from rfl, icmp_of_lt (by omega)] at cm
    have hlrr : ((limbs (ra p q m n)).length : Int) = ln (ra p q m n) := by rw [limbs_length]
    have hrp := ln_pos (n := ra p q m n)
    rw [eR] at hd
    have hadd' : Con Try.prog 40 [IV P', .ag [Bo (q && decide (0 < ra p q m n)), M (ra p q m n)]] (resI (P' + sgn q (ra p q m n))) := by
      have h1 : IV (sgn q (ra p q m n)) = .ag [Bo (q && decide (0 < ra p q m n)), M (ra p q m n)] := by unfold IV; rw [sgn_abs, sgn_neg]
      rw [← h1]; exact hadd
    obtain ⟨b, hb⟩ : ∃ b, b = (q && decide (0 < ra p q m n)) := ⟨_, rfl⟩
    rw [← hb] at hd gu mr hadd'
    generalize dq p q m n = dQ at *
    generalize ra p q m n = rr at *
    generalize Nat.gcd m n = gg at *
    repeat (first | refine seq_ ?_ | refine region_ ?_ | refine nil_ ?_ | refine stepY (y_assign rfl) rfl ?_ | refine stepY (y_loadA rfl rfl rfl) rfl ?_ | refine stepE (e_box rfl rfl rfl rfl rfl rfl) ?_)
    refine call_ Try.func29 rfl rfl v1 rfl (by repeat (first | exact .refl _ | apply Les.cons | exact .nil)) rfl ?_
    repeat (first | refine guard_t rfl rfl rfl ?_ | refine stepY (y_move rfl) rfl ?_ | refine stepY (y_loadA rfl rfl rfl) rfl ?_ | refine stepY (y_not rfl) rfl ?_)
    refine call_ Try.func29 rfl rfl v2 rfl (by repeat (first | exact .refl _ | apply Les.cons | exact .nil)) rfl ?_
    repeat (first | refine seq_ ?_ | refine region_ ?_ | refine nil_ ?_ | refine skip_ ?_ | refine cond_f rfl ?_ | refine guard_t rfl rfl rfl ?_ | refine stepY (y_loadA rfl rfl rfl) rfl ?_ | refine stepY (y_not rfl) rfl ?_ | refine stepY (y_pick_f rfl rfl) rfl ?_)
    refine call_ Try.func17 rfl rfl g1 rfl (by repeat (first | exact .refl _ | apply Les.cons | exact .nil)) rfl ?_
    repeat (first | refine seq_ ?_ | refine region_ ?_ | refine nil_ ?_ | refine stepY (y_move rfl) rfl ?_ | refine stepY (y_assign rfl) rfl ?_ | refine stepY (y_loadA rfl rfl rfl) rfl ?_ | refine stepY (y_extract rfl rfl) rfl ?_ | refine stepE (e_alloc rfl rfl rfl) ?_ | refine stepE (e_store rfl rfl rfl rfl rfl rfl rfl) ?_)
    refine call_ Try.func17 rfl rfl g2 rfl (by repeat (first | exact .refl _ | apply Les.cons | exact .nil)) rfl ?_
    repeat (first | refine seq_ ?_ | refine region_ ?_ | refine nil_ ?_ | refine guard_t rfl rfl rfl ?_ | refine stepY (y_move rfl) rfl ?_ | refine stepY (y_assign rfl) rfl ?_ | refine stepY (y_loadA rfl rfl rfl) rfl ?_ | refine stepY (y_extract rfl rfl) rfl ?_ | refine stepY (y_pick_f rfl rfl) rfl ?_ | refine stepY (y_cmpF rfl rfl rfl (by omega)) rfl ?_ | refine stepE (e_alloc rfl rfl rfl) ?_ | refine stepE (e_store rfl rfl rfl rfl rfl rfl rfl) ?_)
    refine call_ Try.func19 rfl rfl sg1 rfl (by repeat (first | exact .refl _ | exact .tag _ _ | apply Le.ag | apply Les.cons | exact .nil)) rfl ?_
    repeat (first | refine guard_t rfl rfl rfl ?_ | refine stepY (y_move rfl) rfl ?_ | (first | refine stepY (y_load1 rfl rfl rfl) rfl ?_ | refine stepY (y_loadA rfl rfl rfl) rfl ?_) | refine stepY (y_fieldAddr rfl) rfl ?_ | refine stepY (y_not rfl) rfl ?_ | refine stepY (y_pick_f rfl rfl) rfl ?_)
    refine call_ Try.func49 rfl rfl da rfl (by repeat (first | exact .refl _ | exact .tag _ _ | apply Le.ag | apply Les.cons | exact .nil)) rfl ?_
    repeat (first | refine guard_t rfl rfl rfl ?_ | refine stepY (y_move rfl) rfl ?_ | refine stepY (y_loadA rfl rfl rfl) rfl ?_ | refine stepY (y_not rfl) rfl ?_ | refine stepY (y_pick_f rfl rfl) rfl ?_)
    refine call_ Try.func49 rfl rfl db rfl (by repeat (first | exact .refl _ | exact .tag _ _ | apply Le.ag | apply Les.cons | exact .nil)) rfl ?_
    repeat (first | refine seq_ ?_ | refine region_ ?_ | refine nil_ ?_ | refine skip_ ?_ | refine cond_f rfl ?_ | refine guard_t rfl rfl rfl ?_ | refine stepY (y_loadA rfl rfl rfl) rfl ?_ | refine stepY (y_not rfl) rfl ?_ | refine stepY (y_pick_f rfl rfl) rfl ?_)
    refine call_ Try.func15 rfl rfl hd rfl (by repeat (first | exact .refl _ | apply Les.cons | exact .nil)) rfl ?_
    repeat (first | refine seq_ ?_ | refine region_ ?_ | refine nil_ ?_ | refine skip_ ?_ | refine cond_f rfl ?_ | refine stepY (y_move rfl) rfl ?_ | refine stepY (y_assign rfl) rfl ?_ | (first | refine stepY (y_load1 rfl rfl rfl) rfl ?_ | refine stepY (y_loadA rfl rfl rfl) rfl ?_) | refine stepY (y_fieldAddr rfl) rfl ?_ | refine stepY (y_extract rfl rfl) rfl ?_ | refine stepY (y_len_si rfl) rfl ?_ | refine stepY (y_cmpF rfl rfl rfl (by omega)) rfl ?_ | refine stepE (e_alloc rfl rfl rfl) ?_ | refine stepE (e_store rfl rfl rfl rfl rfl rfl rfl) ?_)
    refine call_ Try.func17 rfl rfl gu rfl (by repeat (first | exact .refl _ | exact .tag _ _ | apply Le.ag | apply Les.cons | exact .nil)) rfl ?_
    repeat (first | refine nil_ ?_ | refine stepY (y_move rfl) rfl ?_ | refine stepY (y_assign rfl) rfl ?_ | refine stepY (y_extract rfl rfl) rfl ?_ | refine stepE (e_alloc rfl rfl rfl) ?_ | refine stepE (e_store rfl rfl rfl rfl rfl rfl rfl) ?_)
    refine seq_ (cut_ [(2, .ptr 2 0), (3, .ptr 3 0), (9, .ptr 9 0), (10, .ptr 10 0)] [(2, .bx [Bo p, M m]), (3, .bx [Bo q, M n]), (9, .bx (cF dQ)), (10, .bx [Bo b, FM rr])] ?_ ?_)
    · by_cases hr0 : 0 < rr
      · have hbq : b = q := by rw [hb, decide_eq_true hr0, Bool.and_true]
        have hlp := hrp.2 hr0
        subst hbq
        cases b with
        | false =>
          repeat (refine seq_ ?_)
          refine draw_ [(0, true), (1, true), (2, true), (3, true), (4, true), (5, true), (6, true), (7, true), (8, true), (9, false), (10, true), (11, true), (12, true), (13, true), (14, true), (15, true), (16, true), (17, true), (18, true), (19, true), (20, true), (21, true), (22, true), (23, true), (24, true), (25, true), (26, true), (28, true), (27, false), (29, false), (30, false), (31, true), (32, true)] 1000 [3,5,10,12] mixed (by kernel_rfl) rfl ?_
          ((refine dY rfl (y_move rfl) rfl rfl rfl rfl ?_); refine dY rfl (y_cmpF rfl rfl rfl (by omega)) rfl rfl rfl rfl ?_; refine dY rfl (y_move rfl) rfl rfl rfl rfl ?_; refine dY rfl (y_move rfl) rfl rfl rfl rfl ?_; refine dY rfl (y_cmpF rfl rfl rfl (by omega)) rfl rfl rfl rfl ?_; refine dY rfl (y_pick_f rfl rfl) rfl rfl rfl rfl ?_; refine dY rfl (y_move rfl) rfl rfl rfl rfl ?_; refine dY rfl (y_loadA rfl rfl rfl) rfl rfl rfl rfl ?_; refine dY rfl (y_loadA rfl rfl rfl) rfl rfl rfl rfl ?_)
          refine dC rfl Try.func19 rfl rfl sg1 rfl (by repeat (first | exact .refl _ | exact .tag _ _ | apply Le.ag | apply Les.cons | exact .nil)) rfl rfl ?_
          ((refine dY rfl (y_not rfl) rfl rfl rfl rfl ?_); refine dY rfl (y_pick_f rfl rfl) rfl rfl rfl rfl ?_; refine dY rfl (y_move rfl) rfl rfl rfl rfl ?_; refine dY rfl (y_fieldAddr rfl) rfl rfl rfl rfl ?_; refine dY rfl (y_load1 rfl rfl rfl) rfl rfl rfl rfl ?_; refine dY rfl (y_len_si rfl) rfl rfl rfl rfl ?_; refine dY rfl (y_cmpT rfl rfl rfl (by omega)) rfl rfl rfl rfl ?_; refine dY rfl (y_move rfl) rfl rfl rfl rfl ?_; refine dY rfl (y_fieldAddr rfl) rfl rfl rfl rfl ?_; refine dY rfl (y_load1 rfl rfl rfl) rfl rfl rfl rfl ?_; refine dY rfl (y_fieldAddr rfl) rfl rfl rfl rfl ?_; refine dY rfl (y_load1 rfl rfl rfl) rfl rfl rfl rfl ?_; refine dY rfl (y_neb rfl rfl) rfl rfl rfl rfl ?_; refine dY rfl (y_pick_t rfl rfl) rfl rfl rfl rfl ?_; refine dY rfl (y_pick_f rfl rfl) rfl rfl rfl rfl ?_; refine dY rfl (y_move rfl) rfl rfl rfl rfl ?_; refine dY rfl (y_loadA rfl rfl rfl) rfl rfl rfl rfl ?_; refine dY rfl (y_loadA rfl rfl rfl) rfl rfl rfl rfl ?_)
          refine dC rfl Try.func50 rfl rfl mr rfl (by repeat (first | exact .refl _ | exact .tag _ _ | apply Le.ag | apply Les.cons | exact .nil)) rfl rfl ?_
          skip
          refine dC rfl Try.func50 rfl rfl mb rfl (by repeat (first | exact .refl _ | apply Les.cons | exact .nil)) rfl rfl ?_
          skip
          refine dC rfl Try.func44 rfl rfl cm rfl (by repeat (first | exact .refl _ | apply Les.cons | exact .nil)) rfl rfl ?_
          ((refine dY rfl (y_cmpF rfl rfl rfl (by omega)) rfl rfl rfl rfl ?_); refine dY rfl (y_pick_f rfl rfl) rfl rfl rfl rfl ?_; refine dEnd ?_)
          repeat (first | refine skip_ ?_ | refine cond_f rfl ?_)
          exact ⟨rfl, by (repeat (first | exact sub_nil | refine sub_cons rfl ?_)), by (repeat (first | exact subH_nil | refine subH_cons rfl ?_))⟩
        | true =>
          repeat (refine seq_ ?_)
          refine draw_ [(0, true), (1, true), (2, true), (3, true), (4, true), (5, true), (6, true), (7, true), (8, true), (9, false), (10, true), (11, true), (12, true), (13, true), (14, true), (15, true), (16, true), (17, true), (18, true), (19, true), (20, true), (21, true), (22, true), (23, true), (24, true), (25, true), (26, true), (28, true), (27, false), (29, false), (30, false), (31, true), (32, true)] 1000 [3,5,10,12] mixed (by kernel_rfl) rfl ?_
          ((refine dY rfl (y_move rfl) rfl rfl rfl rfl ?_); refine dY rfl (y_cmpF rfl rfl rfl (by omega)) rfl rfl rfl rfl ?_; refine dY rfl (y_move rfl) rfl rfl rfl rfl ?_; refine dY rfl (y_move rfl) rfl rfl rfl rfl ?_; refine dY rfl (y_cmpF rfl rfl rfl (by omega)) rfl rfl rfl rfl ?_; refine dY rfl (y_pick_f rfl rfl) rfl rfl rfl rfl ?_; refine dY rfl (y_move rfl) rfl rfl rfl rfl ?_; refine dY rfl (y_loadA rfl rfl rfl) rfl rfl rfl rfl ?_; refine dY rfl (y_loadA rfl rfl rfl) rfl rfl rfl rfl ?_)
          refine dC rfl Try.func19 rfl rfl sg1 rfl (by repeat (first | exact .refl _ | exact .tag _ _ | apply Le.ag | apply Les.cons | exact .nil)) rfl rfl ?_
          ((refine dY rfl (y_not rfl) rfl rfl rfl rfl ?_); refine dY rfl (y_pick_f rfl rfl) rfl rfl rfl rfl ?_; refine dY rfl (y_move rfl) rfl rfl rfl rfl ?_; refine dY rfl (y_fieldAddr rfl) rfl rfl rfl rfl ?_; refine dY rfl (y_load1 rfl rfl rfl) rfl rfl rfl rfl ?_; refine dY rfl (y_len_si rfl) rfl rfl rfl rfl ?_; refine dY rfl (y_cmpT rfl rfl rfl (by omega)) rfl rfl rfl rfl ?_; refine dY rfl (y_move rfl) rfl rfl rfl rfl ?_; refine dY rfl (y_fieldAddr rfl) rfl rfl rfl rfl ?_; refine dY rfl (y_load1 rfl rfl rfl) rfl rfl rfl rfl ?_; refine dY rfl (y_fieldAddr rfl) rfl rfl rfl rfl ?_; refine dY rfl (y_load1 rfl rfl rfl) rfl rfl rfl rfl ?_; refine dY rfl (y_neb rfl rfl) rfl rfl rfl rfl ?_; refine dY rfl (y_pick_t rfl rfl) rfl rfl rfl rfl ?_; refine dY rfl (y_pick_f rfl rfl) rfl rfl rfl rfl ?_; refine dY rfl (y_move rfl) rfl rfl rfl rfl ?_; refine dY rfl (y_loadA rfl rfl rfl) rfl rfl rfl rfl ?_; refine dY rfl (y_loadA rfl rfl rfl) rfl rfl rfl rfl ?_)
          refine dC rfl Try.func50 rfl rfl mr rfl (by repeat (first | exact .refl _ | exact .tag _ _ | apply Le.ag | apply Les.cons | exact .nil)) rfl rfl ?_
          skip
          refine dC rfl Try.func50 rfl rfl mb rfl (by repeat (first | exact .refl _ | apply Les.cons | exact .nil)) rfl rfl ?_
          skip
          refine dC rfl Try.func44 rfl rfl cm rfl (by repeat (first | exact .refl _ | apply Les.cons | exact .nil)) rfl rfl ?_
          ((refine dY rfl (y_cmpF rfl rfl rfl (by omega)) rfl rfl rfl rfl ?_); refine dY rfl (y_pick_f rfl rfl) rfl rfl rfl rfl ?_; refine dEnd ?_)
          repeat (first | refine skip_ ?_ | refine cond_f rfl ?_)
          exact ⟨rfl, by (repeat (first | exact sub_nil | refine sub_cons rfl ?_)), by (repeat (first | exact subH_nil | refine subH_cons rfl ?_))⟩
      · have hlp : ln rr = 0 := by
          rcases Nat.eq_zero_or_pos (ln rr) with h1 | h1
          · exact h1
          · exact absurd (hrp.1 h1) hr0
        repeat (refine seq_ ?_)
        refine draw_ [(0, true), (1, true), (2, true), (3, true), (4, true), (5, true), (6, true), (7, true), (8, true), (9, false), (10, true), (11, true), (12, true), (13, true), (14, true), (15, true), (16, true), (17, true), (18, true), (19, true), (20, true), (21, true), (22, true), (23, true), (24, true), (25, true), (26, true), (28, true), (27, false), (29, false), (30, false), (31, true), (32, true)] 1000 [3,5,10,12] mixed (by kernel_rfl) rfl ?_
        ((refine dY rfl (y_move rfl) rfl rfl rfl rfl ?_); refine dY rfl (y_cmpF rfl rfl rfl (by omega)) rfl rfl rfl rfl ?_; refine dY rfl (y_move rfl) rfl rfl rfl rfl ?_; refine dY rfl (y_move rfl) rfl rfl rfl rfl ?_; refine dY rfl (y_cmpF rfl rfl rfl (by omega)) rfl rfl rfl rfl ?_; refine dY rfl (y_pick_f rfl rfl) rfl rfl rfl rfl ?_; refine dY rfl (y_move rfl) rfl rfl rfl rfl ?_; refine dY rfl (y_loadA rfl rfl rfl) rfl rfl rfl rfl ?_; refine dY rfl (y_loadA rfl rfl rfl) rfl rfl rfl rfl ?_)
        refine dC rfl Try.func19 rfl rfl sg1 rfl (by repeat (first | exact .refl _ | exact .tag _ _ | apply Le.ag | apply Les.cons | exact .nil)) rfl rfl ?_
        ((refine dY rfl (y_not rfl) rfl rfl rfl rfl ?_); refine dY rfl (y_pick_f rfl rfl) rfl rfl rfl rfl ?_; refine dY rfl (y_move rfl) rfl rfl rfl rfl ?_; refine dY rfl (y_fieldAddr rfl) rfl rfl rfl rfl ?_; refine dY rfl (y_load1 rfl rfl rfl) rfl rfl rfl rfl ?_; refine dY rfl (y_len_si rfl) rfl rfl rfl rfl ?_; refine dY rfl (y_cmpF rfl rfl rfl (by omega)) rfl rfl rfl rfl ?_; refine dY rfl (y_move rfl) rfl rfl rfl rfl ?_; (refine dSkip rfl rfl rfl rfl ?_); (refine dSkip rfl rfl rfl rfl ?_); (refine dSkip rfl rfl rfl rfl ?_); (refine dSkip rfl rfl rfl rfl ?_); (refine dSkip rfl rfl rfl rfl ?_); refine dY rfl (y_pick_f rfl rfl) rfl rfl rfl rfl ?_; refine dY rfl (y_pick_f rfl rfl) rfl rfl rfl rfl ?_; refine dY rfl (y_move rfl) rfl rfl rfl rfl ?_; refine dY rfl (y_loadA rfl rfl rfl) rfl rfl rfl rfl ?_; refine dY rfl (y_loadA rfl rfl rfl) rfl rfl rfl rfl ?_)
        refine dC rfl Try.func50 rfl rfl mr rfl (by repeat (first | exact .refl _ | exact .tag _ _ | apply Le.ag | apply Les.cons | exact .nil)) rfl rfl ?_
        skip
        refine dC rfl Try.func50 rfl rfl mb rfl (by repeat (first | exact .refl _ | apply Les.cons | exact .nil)) rfl rfl ?_
        skip
        refine dC rfl Try.func44 rfl rfl cm rfl (by repeat (first | exact .refl _ | apply Les.cons | exact .nil)) rfl rfl ?_
        ((refine dY rfl (y_cmpF rfl rfl rfl (by omega)) rfl rfl rfl rfl ?_); refine dY rfl (y_pick_f rfl rfl) rfl rfl rfl rfl ?_; refine dEnd ?_)
        repeat (first | refine skip_ ?_ | refine cond_f rfl ?_)
        exact ⟨rfl, by (repeat (first | exact sub_nil | refine sub_cons rfl ?_)), by (repeat (first | exact subH_nil | refine subH_cons rfl ?_))⟩
    by_cases he : e = 0
    · obtain ⟨rfl, _⟩ := P0 he
      rw [hid, resI_ok hAA] at hadd'
      repeat (first | refine seq_ ?_ | refine region_ ?_ | refine stepY (y_loadA rfl rfl rfl) rfl ?_)
      refine call_ Try.func27 rfl rfl hmul rfl (by repeat (first | exact .refl _ | exact .tag _ _ | apply Le.ag | apply Les.cons | exact .nil)) rfl ?_
      repeat (first | refine seq_ ?_ | refine region_ ?_ | refine nil_ ?_ | refine skip_ ?_ | refine cond_f rfl ?_ | refine stepY (y_move rfl) rfl ?_ | refine stepY (y_assign rfl) rfl ?_ | refine stepY (y_loadA rfl rfl rfl) rfl ?_ | refine stepY (y_extract rfl rfl) rfl ?_ | refine stepY (y_cmpF rfl rfl rfl (by omega)) rfl ?_ | refine stepE (e_alloc rfl rfl rfl) ?_ | refine stepE (e_store rfl rfl rfl rfl rfl rfl rfl) ?_)
      refine call_ Try.func40 rfl rfl hadd' rfl (by repeat (first | exact .refl _ | exact .tag _ _ | apply Le.ag | apply Les.cons | exact .nil)) rfl ?_
      repeat (first | refine seq_ ?_ | refine region_ ?_ | refine nil_ ?_ | refine guard_t rfl rfl rfl ?_ | refine stepY (y_move rfl) rfl ?_ | refine stepY (y_assign rfl) rfl ?_ | refine stepY (y_loadA rfl rfl rfl) rfl ?_ | refine stepY (y_extract rfl rfl) rfl ?_ | refine stepY (y_cmpT rfl rfl rfl (by omega)) rfl ?_ | refine stepE (e_alloc rfl rfl rfl) ?_ | refine stepE (e_store rfl rfl rfl rfl rfl rfl rfl) ?_)
      refine call_ Try.func19 rfl rfl hsa rfl (by repeat (first | exact .refl _ | exact .tag _ _ | apply Le.ag | apply Les.cons | exact .nil)) rfl ?_
      repeat (first | refine guard_t rfl rfl rfl ?_ | refine stepY (y_move rfl) rfl ?_ | refine stepY (y_pick_t rfl rfl) rfl ?_)
      refine call_ Try.func20 rfl rfl examples_c rfl (by repeat (exact .nil)) rfl ?_
      repeat (first | refine nil_ ?_ | refine ret_ ?_ | refine stepY (y_assign rfl) rfl ?_ | refine stepY (y_pick_t rfl rfl) rfl ?_)
      ((apply fin_r); (repeat (first | exact .nil | exact .tmp rfl | apply ResL.cons)); (repeat (exact .refl _)))
    · obtain ⟨rfl, _⟩ := P1 he
      repeat (first | refine seq_ ?_ | refine region_ ?_ | refine stepY (y_loadA rfl rfl rfl) rfl ?_)
      refine call_ Try.func27 rfl rfl hmul rfl (by repeat (first | exact .refl _ | exact .tag _ _ | apply Le.ag | apply Les.cons | exact .nil)) rfl ?_
      repeat (first | refine seq_ ?_ | refine region_ ?_ | refine nil_ ?_ | refine cond_t rfl ?_ | refine guard_t rfl rfl rfl ?_ | refine stepY (y_move rfl) rfl ?_ | refine stepY (y_assign rfl) rfl ?_ | refine stepY (y_extract rfl rfl) rfl ?_ | refine stepY (y_cmpT rfl rfl rfl (by omega)) rfl ?_ | refine stepY (y_cmpT rfl rfl rfl (by omega)) rfl ?_ | refine stepE (e_alloc rfl rfl rfl) ?_ | refine stepE (e_store rfl rfl rfl rfl rfl rfl rfl) ?_)
      refine call_ Try.func20 rfl rfl examples_c rfl (by repeat (exact .nil)) rfl ?_
      repeat (first | refine nil_ ?_ | refine ret_ ?_ | refine stepY (y_assign rfl) rfl ?_ | refine stepY (y_pick_t rfl rfl) rfl ?_)
      ((apply fin_r); (repeat (first | exact .nil | exact .tmp rfl | apply ResL.cons)); (repeat (exact .refl _)))
theorem Euclid_c (p q : Bool) (l k : List Int) (hl : wf l) (hk : wf k) : Con Try.prog 14 [AV p l, AV q k] (Bo true) := by
  cases hv : vldB p l && vldB q k with
  | false => exact Euclid_e p q l k hv
  | true =>
    rw [Bool.and_eq_true] at hv
    obtain ⟨m, rfl, hm⟩ := norm hl hv.1
    obtain ⟨n, rfl, hn⟩ := norm hk hv.2
    exact Euclid_s p q m n hm hn
end Go.Av
