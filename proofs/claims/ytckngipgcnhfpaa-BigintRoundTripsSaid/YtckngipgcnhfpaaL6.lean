import Derived.Test.YtckngipgcnhfpaaL5
set_option maxHeartbeats 4000000
set_option maxRecDepth 100000
set_option linter.unusedVariables false
set_option linter.unusedSimpArgs false
namespace Go.Av
open Go Go.Proofs

/-! limbs.lowered -/
theorem lowered_c (a : List Int) (n : Nat) (ha : wf a) (hla : a.length < 4294967296) (hn : n ≤ 31) : Con Try.prog 85 [Li a, I n] (M (val a / 2 ^ n)) := by
  refine con_of Try.func85 rfl rfl rfl rfl rfl ?_
  repeat (first | refine seq_ ?_ | refine region_ ?_ | refine nil_ ?_ | refine stepY (y_move rfl) rfl ?_ | refine stepY (y_assign rfl) rfl ?_ | refine stepY (y_len_si rfl) rfl ?_)
  refine stepE (e_make rfl rfl (by omega) (by omega) rfl rfl) ?_
  repeat (first | refine seq_ ?_ | refine region_ ?_ | refine nil_ ?_ | refine block_ ?_ | refine stepY (y_move rfl) rfl ?_ | refine stepY (y_assign rfl) rfl ?_ | refine stepY (y_len_si rfl) rfl ?_)
  rw [show ((a.length : Int)).toNat = a.length by omega, ← pz_zero a.length (val a / 2 ^ n)]
  refine loop_ (α := Nat) (fun k => ([(0, .p (Li a)), (1, .p (I n)), (5, .vec 10), (12, .p (I a.length)), (13, .p (I k))], [(10, .vi 57 .u32 (pz k a.length (val a / 2 ^ n)))])) (fun k => k ≤ a.length) (fun k => a.length - k) 0 (Nat.zero_le _) ?_ ?_ ?_
  · (repeat (first | exact sub_nil | refine sub_cons rfl ?_))
  · (repeat (first | exact subH_nil | refine subH_cons rfl ?_))
  intro k hk
  have hl : (pz k a.length (val a / 2 ^ n)).length = a.length := pz_length hk
  by_cases hlt : k < a.length
  · have h0 := rd_dgk ha k
    have b0 := dg_bd (val a) k
    have h1 := rd_dgk ha (k + 1)
    have b1 := dg_bd (val a) (k + 1)
    have hs := low_step (a := val a) hn k
    have hv : ∀ y : Nat, y = dg (val a) k + B * dg (val a) (k + 1) → IntKind.wrap .u32 ((y : Int) / 2 ^ n) = ((dg (val a / 2 ^ n) k : Nat) : Int) := by
      intro y hy
      rw [hs, ← hy, wrap_u32]
      have e : (y : Int) / 2 ^ n = ((y / 2 ^ n : Nat) : Int) := by simp
      rw [e, show (4294967296 : Int) = ((B : Nat) : Int) from rfl]
      simp
    have hra : 0 ≤ rd a k ∧ rd a k < 4294967296 := by rw [h0]; exact b0
    by_cases hn1 : k + 1 < a.length
    · have hrb : 0 ≤ rd a ((k : Int) + 1) ∧ rd a ((k : Int) + 1) < 4294967296 := by rw [show ((k : Int) + 1) = ((k + 1 : Nat) : Int) by omega, h1]; exact b1
      repeat (first | refine seq_ ?_ | refine region_ ?_ | refine nil_ ?_ | refine skip_ ?_ | refine block_ ?_ | refine cond_t rfl ?_ | refine stepY (y_move rfl) rfl ?_ | refine stepY (y_assign rfl) rfl ?_ | refine stepY (y_load_rc1 rfl rfl) rfl ?_ | refine stepY (y_len_si rfl) rfl ?_ | refine stepY (y_convn rfl (by simp only [InK, loK, hiK]; omega)) rfl ?_ | refine stepY (y_index_si rfl rfl (by omega) (by omega)) rfl ?_ | refine stepY (y_binn rfl rfl rfl (by simp only [InK, loK, hiK]; omega)) rfl ?_ | refine stepY (y_shl32 rfl rfl (by decide) (by simp only [InK, loK, hiK]; omega)) rfl ?_ | refine stepY (y_cmpT rfl rfl rfl (by omega)) rfl ?_ | refine stepY (y_bin rfl rfl rfl) rfl ?_)
      have e1 : bits .or .u64 (rd a (k : Int)) (rd a ((k : Int) + 1) * 4294967296) = ((dg (val a) k + B * dg (val a) (k + 1) : Nat) : Int) := by
        rw [show ((k : Int) + 1) = ((k + 1 : Nat) : Int) by omega, h0, h1]
        have e : ((dg (val a) (k + 1) : Int) * 4294967296) = ((2 ^ 32 * dg (val a) (k + 1) : Nat) : Int) := by omega
        rw [e, u64_or_nat _ _ (by omega) (by omega), Nat.or_comm, ← Nat.two_pow_add_eq_or_of_lt (by omega), Nat.add_comm]; rfl
      rw [e1]
      refine stepY (y_shrn rfl rfl (by show (n : Int) ≤ 64; omega)) rfl ?_
      repeat (first | refine region_ ?_ | refine nil_ ?_ | refine stepY (y_move rfl) rfl ?_ | refine stepY (y_conv rfl) rfl ?_ | refine stepY (y_index_vi rfl rfl rfl (by omega) (by omega)) rfl ?_ | refine stepY (y_binn rfl rfl rfl (by simp only [InK, loK, hiK]; omega)) rfl ?_ | refine stepE (e_store_vi rfl rfl rfl (by omega) (by omega)) ?_)
      rw [hv _ rfl, Int.toNat_natCast, pz_set (by omega)]
      refine ⟨k + 1, by omega, by omega, ?_, ?_⟩ <;> (repeat (first | exact sub_nil | exact subH_nil | refine sub_cons rfl ?_ | refine subH_cons rfl ?_))
    · have hz : dg (val a) (k + 1) = 0 := dg_big (ln_le.2 (Nat.lt_of_lt_of_le (val_lt ha) (Nat.pow_le_pow_right B_pos (by omega))))
      repeat (first | refine seq_ ?_ | refine region_ ?_ | refine nil_ ?_ | refine skip_ ?_ | refine block_ ?_ | refine cond_t rfl ?_ | refine cond_f rfl ?_ | refine stepY (y_move rfl) rfl ?_ | refine stepY (y_assign rfl) rfl ?_ | refine stepY (y_load_rc1 rfl rfl) rfl ?_ | refine stepY (y_len_si rfl) rfl ?_ | refine stepY (y_convn rfl (by simp only [InK, loK, hiK]; omega)) rfl ?_ | refine stepY (y_index_si rfl rfl (by omega) (by omega)) rfl ?_ | refine stepY (y_binn rfl rfl rfl (by simp only [InK, loK, hiK]; omega)) rfl ?_ | (first | refine stepY (y_cmpT rfl rfl rfl (by omega)) rfl ?_ | refine stepY (y_cmpF rfl rfl rfl (by omega)) rfl ?_))
      rw [h0]
      refine stepY (y_shrn rfl rfl (by show (n : Int) ≤ 64; omega)) rfl ?_
      repeat (first | refine region_ ?_ | refine nil_ ?_ | refine stepY (y_move rfl) rfl ?_ | refine stepY (y_conv rfl) rfl ?_ | refine stepY (y_index_vi rfl rfl rfl (by omega) (by omega)) rfl ?_ | refine stepY (y_binn rfl rfl rfl (by simp only [InK, loK, hiK]; omega)) rfl ?_ | refine stepE (e_store_vi rfl rfl rfl (by omega) (by omega)) ?_)
      rw [hv _ (by rw [hz]; omega), Int.toNat_natCast, pz_set (by omega)]
      refine ⟨k + 1, by omega, by omega, ?_, ?_⟩ <;> (repeat (first | exact sub_nil | exact subH_nil | refine sub_cons rfl ?_ | refine subH_cons rfl ?_))
  · obtain rfl : k = a.length := by omega
    repeat (first | refine seq_ ?_ | refine region_ ?_ | refine nil_ ?_ | refine exit_ ?_ | refine cond_f rfl ?_ | refine stepY (y_move rfl) rfl ?_ | refine stepY (y_cmpF rfl rfl rfl (by omega)) rfl ?_)
    refine seal_L (i := 43) (h := 10) rfl rfl rfl rfl ?_
    rw [pz_full]
    have hv := Trim_c (padd a.length (val a / 2 ^ n)) (wf_padd _ _)
    rw [val_padd, Nat.mod_eq_of_lt (Nat.lt_of_le_of_lt (Nat.div_le_self _ _) (val_lt ha))] at hv
    refine call_ Try.func79 rfl rfl hv rfl (by repeat (first | exact .tag _ _ | apply Les.cons | exact .nil)) rfl ?_
    repeat (first | refine nil_ ?_ | refine ret_ ?_ | refine stepY (y_assign rfl) rfl ?_)
    ((apply fin_r); (repeat (first | exact .nil | exact .tmp rfl | apply ResL.cons)); (repeat (exact .refl _)))

/-! limbs.guess -/
theorem guess_c (top next third d e : Nat) (ht1 : top < 4294967296) (ht2 : next < 4294967296) (ht3 : third < 4294967296) (hd : d < 4294967296) (he : e < 4294967296) :
    Con Try.prog 82 [U top, U next, U third, U d, U e] (UU (gs top next third d e)) := by
  refine con_of Try.func82 rfl rfl rfl rfl rfl ?_
  generalize hg : gs top next third d e = g
  unfold gs at hg
  by_cases hlt : top < d
  · rw [if_pos hlt] at hg
    have hq : (top * B + next) / d < 4294967296 := by
      rw [Nat.div_lt_iff_lt_mul (by omega)]; unfold B; omega
    have hm := Nat.mod_lt (top * B + next) (show 0 < d by omega)
    have hc := Div32_c top next d ht2 hd hlt
    generalize (top * B + next) / d = q at *
    generalize (top * B + next) % d = m at *
    repeat (first | refine seq_ ?_ | refine region_ ?_ | refine nil_ ?_ | refine cond_t rfl ?_ | refine stepY (y_move rfl) rfl ?_ | refine stepY (y_assign rfl) rfl ?_ | refine stepY (y_convn rfl (by simp only [InK, loK, hiK]; omega)) rfl ?_ | refine stepY (y_binn rfl rfl rfl (by simp only [InK, loK, hiK]; omega)) rfl ?_ | refine stepY (y_cmpT rfl rfl rfl (by omega)) rfl ?_)
    refine call_ Try.func93 rfl rfl hc rfl (by repeat (first | exact .refl _ | apply Les.cons | exact .nil)) rfl ?_
    repeat (first | refine seq_ ?_ | refine region_ ?_ | refine nil_ ?_ | refine block_ ?_ | refine stepY (y_move rfl) rfl ?_ | refine stepY (y_assign rfl) rfl ?_ | refine stepY (y_extract rfl rfl) rfl ?_ | refine stepY (y_convn rfl (by simp only [InK, loK, hiK]; omega)) rfl ?_)
    refine loop_ (α := Nat × Nat) (fun y => ([(2, .p (U third)), (3, .p (U d)), (4, .p (U e)), (11, .p (UU y.1)), (12, .p (UU y.2))], [])) (fun y => y.1 < 4294967296 ∧ y.2 < 18446744073709551616 ∧ (y.2 < 4294967296 → y.2 + d < 18446744073709551616) ∧ gl e third d y.1 y.2 = g) (fun y => y.1) (q, m) ⟨by omega, by omega, by omega, hg⟩ ?_ ?_ ?_
    · (repeat (first | exact sub_nil | refine sub_cons rfl ?_))
    · (repeat (exact subH_nil))
    intro ⟨x, r⟩ ⟨hx1, hr1, hr2, hgl⟩
    dsimp only at hx1 hr1 hr2 hgl ⊢
    have hm : x * e ≤ 4294967295 * 4294967295 := Nat.mul_le_mul (by omega) (by omega)
    have hm' : ((x : Int) * e) = ((x * e : Nat) : Int) := by simp
    by_cases h1 : r < 4294967296
    · have ho := or32 (h := r) (l := third) h1 ht3
      by_cases h2 : r * 4294967296 + third < x * e
      · have hx0 : x ≠ 0 := by intro h; subst h; simp at h2
        obtain ⟨x', rfl⟩ : ∃ x', x = x' + 1 := ⟨x - 1, by omega⟩
        have hgl' : gl e third d x' (r + d) = g := by rw [← hgl]; conv => rhs; unfold gl; rw [if_pos (show r < B ∧ r * B + third < (x' + 1) * e from ⟨h1, h2⟩)]
        generalize hp : (x' + 1) * e = p at *
        repeat (first | refine seq_ ?_ | refine region_ ?_ | refine nil_ ?_ | refine skip_ ?_ | refine block_ ?_ | refine cond_t rfl ?_ | refine guard_t rfl rfl rfl ?_ | refine stepY (y_move rfl) rfl ?_ | refine stepY (y_assign rfl) rfl ?_ | refine stepY (y_convn rfl (by simp only [InK, loK, hiK]; omega)) rfl ?_ | refine stepY (y_pick_t rfl rfl) rfl ?_ | refine stepY (y_binn rfl rfl rfl (by simp only [InK, loK, hiK]; omega)) rfl ?_ | refine stepY (y_binn rfl rfl rfl (by simp only [InK, loK, hiK]; omega)) rfl ?_ | refine stepY (y_binn rfl rfl rfl (by simp only [InK, loK, hiK]; omega)) rfl ?_ | refine stepY (y_shl32 rfl rfl (by decide) (by simp only [InK, loK, hiK]; omega)) rfl ?_ | refine stepY (y_cmpT rfl rfl rfl (by omega)) rfl ?_ | refine stepY (y_cmpT rfl rfl rfl (by omega)) rfl ?_ | refine stepY (y_bin rfl rfl rfl) rfl ?_)
        refine ⟨(x', r + d), ⟨by omega, by omega, by omega, hgl'⟩, Nat.lt_succ_self x', ?_, ?_⟩ <;> (repeat (first | exact sub_nil | exact subH_nil | refine sub_cons rfl ?_ | refine sub_conse rfl (by (congr 3; omega)) ?_))
      · have hgl' : x = g := by
          rw [← hgl]
          cases x with
          | zero => rfl
          | succ x => unfold gl; rw [if_neg (show ¬ (r < B ∧ r * B + third < (x + 1) * e) from fun h => h2 h.2)]
        generalize hp : x * e = p at *
        repeat (first | refine seq_ ?_ | refine region_ ?_ | refine nil_ ?_ | refine exit_ ?_ | refine ret_ ?_ | refine cond_f rfl ?_ | refine guard_t rfl rfl rfl ?_ | refine stepY (y_move rfl) rfl ?_ | refine stepY (y_assign rfl) rfl ?_ | refine stepY (y_convn rfl (by simp only [InK, loK, hiK]; omega)) rfl ?_ | refine stepY (y_pick_t rfl rfl) rfl ?_ | refine stepY (y_binn rfl rfl rfl (by simp only [InK, loK, hiK]; omega)) rfl ?_ | refine stepY (y_shl32 rfl rfl (by decide) (by simp only [InK, loK, hiK]; omega)) rfl ?_ | refine stepY (y_cmpT rfl rfl rfl (by omega)) rfl ?_ | refine stepY (y_cmpF rfl rfl rfl (by omega)) rfl ?_ | refine stepY (y_bin rfl rfl rfl) rfl ?_)
        rw [← hgl']
        ((apply fin_r); (repeat (first | exact .nil | exact .tmp rfl | apply ResL.cons)); (repeat (exact .refl _)))
    · have hgl' : x = g := by
        rw [← hgl]
        cases x with
        | zero => rfl
        | succ x => unfold gl; rw [if_neg (show ¬ (r < B ∧ r * B + third < (x + 1) * e) from fun h => h1 h.1)]
      repeat (first | refine seq_ ?_ | refine region_ ?_ | refine nil_ ?_ | refine exit_ ?_ | refine ret_ ?_ | refine cond_f rfl ?_ | refine guard_f rfl rfl rfl rfl ?_ | refine stepY (y_move rfl) rfl ?_ | refine stepY (y_assign rfl) rfl ?_ | refine stepY (y_pick_f rfl rfl) rfl ?_ | refine stepY (y_cmpF rfl rfl rfl (by omega)) rfl ?_)
      rw [← hgl']
      ((apply fin_r); (repeat (first | exact .nil | exact .tmp rfl | apply ResL.cons)); (repeat (exact .refl _)))
  · rw [if_neg hlt] at hg
    have hB : B - 1 = 4294967295 := rfl
    rw [hB] at hg
    repeat (first | refine seq_ ?_ | refine region_ ?_ | refine nil_ ?_ | refine skip_ ?_ | refine block_ ?_ | refine cond_f rfl ?_ | refine stepY (y_move rfl) rfl ?_ | refine stepY (y_assign rfl) rfl ?_ | refine stepY (y_convn rfl (by simp only [InK, loK, hiK]; omega)) rfl ?_ | refine stepY (y_binn rfl rfl rfl (by simp only [InK, loK, hiK]; omega)) rfl ?_ | refine stepY (y_cmpF rfl rfl rfl (by omega)) rfl ?_)
    refine loop_ (α := Nat × Nat) (fun y => ([(2, .p (U third)), (3, .p (U d)), (4, .p (U e)), (11, .p (UU y.1)), (12, .p (UU y.2))], [])) (fun y => y.1 < 4294967296 ∧ y.2 < 18446744073709551616 ∧ (y.2 < 4294967296 → y.2 + d < 18446744073709551616) ∧ gl e third d y.1 y.2 = g) (fun y => y.1) (4294967295, next + d) ⟨by omega, by omega, by omega, hg⟩ ?_ ?_ ?_
    · (repeat (first | exact sub_nil | refine sub_cons rfl ?_))
    · (repeat (exact subH_nil))
    intro ⟨x, r⟩ ⟨hx1, hr1, hr2, hgl⟩
    dsimp only at hx1 hr1 hr2 hgl ⊢
    have hm : x * e ≤ 4294967295 * 4294967295 := Nat.mul_le_mul (by omega) (by omega)
    have hm' : ((x : Int) * e) = ((x * e : Nat) : Int) := by simp
    by_cases h1 : r < 4294967296
    · have ho := or32 (h := r) (l := third) h1 ht3
      by_cases h2 : r * 4294967296 + third < x * e
      · have hx0 : x ≠ 0 := by intro h; subst h; simp at h2
        obtain ⟨x', rfl⟩ : ∃ x', x = x' + 1 := ⟨x - 1, by omega⟩
        have hgl' : gl e third d x' (r + d) = g := by rw [← hgl]; conv => rhs; unfold gl; rw [if_pos (show r < B ∧ r * B + third < (x' + 1) * e from ⟨h1, h2⟩)]
        generalize hp : (x' + 1) * e = p at *
        repeat (first | refine seq_ ?_ | refine region_ ?_ | refine nil_ ?_ | refine skip_ ?_ | refine block_ ?_ | refine cond_t rfl ?_ | refine guard_t rfl rfl rfl ?_ | refine stepY (y_move rfl) rfl ?_ | refine stepY (y_assign rfl) rfl ?_ | refine stepY (y_convn rfl (by simp only [InK, loK, hiK]; omega)) rfl ?_ | refine stepY (y_pick_t rfl rfl) rfl ?_ | refine stepY (y_binn rfl rfl rfl (by simp only [InK, loK, hiK]; omega)) rfl ?_ | refine stepY (y_binn rfl rfl rfl (by simp only [InK, loK, hiK]; omega)) rfl ?_ | refine stepY (y_binn rfl rfl rfl (by simp only [InK, loK, hiK]; omega)) rfl ?_ | refine stepY (y_shl32 rfl rfl (by decide) (by simp only [InK, loK, hiK]; omega)) rfl ?_ | refine stepY (y_cmpT rfl rfl rfl (by omega)) rfl ?_ | refine stepY (y_cmpT rfl rfl rfl (by omega)) rfl ?_ | refine stepY (y_bin rfl rfl rfl) rfl ?_)
        refine ⟨(x', r + d), ⟨by omega, by omega, by omega, hgl'⟩, Nat.lt_succ_self x', ?_, ?_⟩ <;> (repeat (first | exact sub_nil | exact subH_nil | refine sub_cons rfl ?_ | refine sub_conse rfl (by (congr 3; omega)) ?_))
      · have hgl' : x = g := by
          rw [← hgl]
          cases x with
          | zero => rfl
          | succ x => unfold gl; rw [if_neg (show ¬ (r < B ∧ r * B + third < (x + 1) * e) from fun h => h2 h.2)]
        generalize hp : x * e = p at *
        repeat (first | refine seq_ ?_ | refine region_ ?_ | refine nil_ ?_ | refine exit_ ?_ | refine ret_ ?_ | refine cond_f rfl ?_ | refine guard_t rfl rfl rfl ?_ | refine stepY (y_move rfl) rfl ?_ | refine stepY (y_assign rfl) rfl ?_ | refine stepY (y_convn rfl (by simp only [InK, loK, hiK]; omega)) rfl ?_ | refine stepY (y_pick_t rfl rfl) rfl ?_ | refine stepY (y_binn rfl rfl rfl (by simp only [InK, loK, hiK]; omega)) rfl ?_ | refine stepY (y_shl32 rfl rfl (by decide) (by simp only [InK, loK, hiK]; omega)) rfl ?_ | refine stepY (y_cmpT rfl rfl rfl (by omega)) rfl ?_ | refine stepY (y_cmpF rfl rfl rfl (by omega)) rfl ?_ | refine stepY (y_bin rfl rfl rfl) rfl ?_)
        rw [← hgl']
        ((apply fin_r); (repeat (first | exact .nil | exact .tmp rfl | apply ResL.cons)); (repeat (exact .refl _)))
    · have hgl' : x = g := by
        rw [← hgl]
        cases x with
        | zero => rfl
        | succ x => unfold gl; rw [if_neg (show ¬ (r < B ∧ r * B + third < (x + 1) * e) from fun h => h1 h.1)]
      repeat (first | refine seq_ ?_ | refine region_ ?_ | refine nil_ ?_ | refine exit_ ?_ | refine ret_ ?_ | refine cond_f rfl ?_ | refine guard_f rfl rfl rfl rfl ?_ | refine stepY (y_move rfl) rfl ?_ | refine stepY (y_assign rfl) rfl ?_ | refine stepY (y_pick_f rfl rfl) rfl ?_ | refine stepY (y_cmpF rfl rfl rfl (by omega)) rfl ?_)
      rw [← hgl']
      ((apply fin_r); (repeat (first | exact .nil | exact .tmp rfl | apply ResL.cons)); (repeat (exact .refl _)))
end Go.Av
