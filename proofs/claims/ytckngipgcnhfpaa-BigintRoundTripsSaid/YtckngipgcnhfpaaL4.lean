import Derived.Test.YtckngipgcnhfpaaL3
set_option maxHeartbeats 4000000
set_option linter.unusedVariables false
set_option linter.unusedSimpArgs false
namespace Go.Av
open Go Go.Proofs

/-! limbs.Product -/
theorem Product_c (a b : List Int) (ha : wf a) (hb : wf b) (hla : a.length < 4294967296) (hlb : b.length < 4294967296) : Con Try.prog 63 [Li a, Li b] (M (val a * val b)) := by
  refine con_of Try.func63 rfl rfl rfl rfl rfl ?_
  repeat (first | refine seq_ ?_ | refine region_ ?_ | refine nil_ ?_ | refine stepY (y_move rfl) rfl ?_ | refine stepY (y_assign rfl) rfl ?_ | refine stepY (y_len_si rfl) rfl ?_ | refine stepY (y_binn rfl rfl rfl (by simp only [InK, loK, hiK]; omega)) rfl ?_)
  refine stepE (e_make rfl rfl (by omega) (by omega) rfl rfl) ?_
  repeat (first | refine seq_ ?_ | refine region_ ?_ | refine nil_ ?_ | refine block_ ?_ | refine stepY (y_move rfl) rfl ?_ | refine stepY (y_assign rfl) rfl ?_ | refine stepY (y_len_si rfl) rfl ?_)
  rw [show ((a.length : Int) + b.length).toNat = a.length + b.length by omega]
  refine loop_ (α := Nat × List Int) (fun y => ([(0, .p (Li a)), (1, .p (Li b)), (5, .vec 16), (17, .p (Li a)), (18, .p (I a.length)), (19, .p (I y.1))], [(16, .vi 57 .u32 y.2)])) (fun y => y.1 ≤ a.length ∧ wf y.2 ∧ y.2.length = a.length + b.length ∧ val y.2 = (val a % B ^ y.1) * val b) (fun y => a.length - y.1) (0, List.replicate (a.length + b.length) 0) ⟨Nat.zero_le _, wf_zero _, by simp, by simp [val_zero, Nat.mod_one]⟩ ?_ ?_ ?_
  · (repeat (first | exact sub_nil | refine sub_cons rfl ?_))
  · (repeat (first | exact subH_nil | refine subH_cons rfl ?_))
  intro ⟨i, o⟩ ⟨hi, hw, hlo, hv⟩
  dsimp only at hi hw hlo hv ⊢
  by_cases hlt : i < a.length
  · have ra := rd_dgk ha i
    have rb := dg_bd (val a) i
    repeat (first | refine seq_ ?_ | refine region_ ?_ | refine nil_ ?_ | refine skip_ ?_ | refine block_ ?_ | refine cond_t rfl ?_ | refine stepY (y_move rfl) rfl ?_ | refine stepY (y_assign rfl) rfl ?_ | refine stepY (y_load_rc1 rfl rfl) rfl ?_ | refine stepY (y_len_si rfl) rfl ?_ | refine stepY (y_index_si rfl rfl (by omega) (by omega)) rfl ?_ | refine stepY (y_cmpT rfl rfl rfl (by omega)) rfl ?_)
    rw [ra]
    refine loop_ (α := Nat × Nat × List Int) (fun y => ([(0, .p (Li a)), (1, .p (Li b)), (5, .vec 16), (17, .p (Li a)), (18, .p (I a.length)), (19, .p (I i)), (6, .p (I i)), (7, .p (U (dg (val a) i))), (8, .p (UU y.2.1)), (24, .p (Li b)), (25, .p (I b.length)), (26, .p (I y.1))], [(16, .vi 57 .u32 y.2.2)])) (fun y => y.1 ≤ b.length ∧ PS (val a) (val b) (a.length + b.length) i y.1 y.2.2 y.2.1 b.length) (fun y => b.length - y.1) (0, 0, o) ⟨Nat.zero_le _, PS.first hw hlo hv (val_lt hb)⟩ ?_ ?_ ?_
    · (repeat (first | exact sub_nil | refine sub_cons rfl ?_))
    · (repeat (first | exact subH_nil | refine subH_cons rfl ?_))
    intro ⟨k, c, q⟩ ⟨hk, hp⟩
    dsimp only at hk hp ⊢
    have hlq := hp.l
    by_cases hkl : k < b.length
    · have hs := hp.step (s := dg (val a) i * dg (val b) k + (q.getD (i + k) 0).toNat + c) hkl (by omega) rfl
      have hlim := hp.lim (by omega)
      have rk := rd_dgk hb k
      have rk' := dg_bd (val b) k
      have hc := hp.c
      have hrd : rd q ((i : Int) + k) = q.getD (i + k) 0 := by unfold rd; rw [show ((i : Int) + k).toNat = i + k by omega]
      have hm1 : (dg (val a) i : Int) * rd b k = ((dg (val a) i * dg (val b) k : Nat) : Int) := by rw [rk]; simp
      have hm2 : 0 ≤ rd b k ∧ rd b k < 4294967296 := by rw [rk]; exact rk'
      have hm3 : 0 ≤ rd q ((i : Int) + k) ∧ rd q ((i : Int) + k) < 4294967296 := by rw [hrd]; exact hlim.2
      generalize hP : dg (val a) i * dg (val b) k = p at *
      repeat (first | refine seq_ ?_ | refine region_ ?_ | refine nil_ ?_ | refine skip_ ?_ | refine block_ ?_ | refine cond_t rfl ?_ | refine stepY (y_move rfl) rfl ?_ | refine stepY (y_assign rfl) rfl ?_ | (first | refine stepY (y_load_rc1 rfl rfl) rfl ?_ | refine stepY (y_load_vi rfl rfl (by omega) (by omega)) rfl ?_) | (first | refine stepY (y_convn rfl (by simp only [InK, loK, hiK]; omega)) rfl ?_ | refine stepY (y_conv rfl) rfl ?_) | (first | refine stepY (y_index_si rfl rfl (by omega) (by omega)) rfl ?_ | refine stepY (y_index_vi rfl rfl rfl (by omega) (by omega)) rfl ?_) | refine stepY (y_binn rfl rfl rfl (by simp only [InK, loK, hiK]; omega)) rfl ?_ | refine stepY (y_binn rfl rfl rfl (by simp only [InK, loK, hiK]; omega)) rfl ?_ | refine stepY (y_shr32 rfl rfl (by decide)) rfl ?_ | refine stepY (y_cmpT rfl rfl rfl (by omega)) rfl ?_ | refine stepE (e_store_vi rfl rfl rfl (by omega) (by omega)) ?_)
      rw [show ((i : Int) + k).toNat = i + k by omega, wrap_u32]
      have e1 : ((c : Int) + ((dg (val a) i : Int) * rd b k + rd q ((i : Int) + k))) = ((p + (q.getD (i + k) 0).toNat + c : Nat) : Int) := by rw [hm1, hrd]; omega
      rw [e1]
      refine ⟨(k + 1, (p + (q.getD (i + k) 0).toNat + c) / B, q.set (i + k) (((p + (q.getD (i + k) 0).toNat + c) % B : Nat) : Int)), ⟨by omega, hs⟩, by dsimp only; omega, ?_, ?_⟩ <;> (repeat (first | exact sub_nil | exact subH_nil | refine sub_cons rfl ?_ | refine subH_cons rfl ?_))
    · obtain rfl : k = b.length := by omega
      have hl := hp.last (val_lt hb) (by omega)
      have hc := hp.c
      unfold B at hc
      repeat (first | refine seq_ ?_ | refine region_ ?_ | refine nil_ ?_ | refine exit_ ?_ | refine cond_f rfl ?_ | refine stepY (y_move rfl) rfl ?_ | refine stepY (y_len_si rfl) rfl ?_ | refine stepY (y_convn rfl (by simp only [InK, loK, hiK]; omega)) rfl ?_ | refine stepY (y_index_vi rfl rfl rfl (by omega) (by omega)) rfl ?_ | refine stepY (y_binn rfl rfl rfl (by simp only [InK, loK, hiK]; omega)) rfl ?_ | refine stepY (y_cmpF rfl rfl rfl (by omega)) rfl ?_ | refine stepE (e_store_vi rfl rfl rfl (by omega) (by omega)) ?_)
      rw [show ((i : Int) + b.length).toNat = i + b.length by omega]
      refine ⟨(i + 1, q.set (i + b.length) (c : Int)), ⟨by omega, hl⟩, by dsimp only; omega, ?_, ?_⟩ <;> (repeat (first | exact sub_nil | exact subH_nil | refine sub_cons rfl ?_ | refine subH_cons rfl ?_))
  · obtain rfl : i = a.length := by omega
    rw [Nat.mod_eq_of_lt (val_lt ha)] at hv
    repeat (first | refine seq_ ?_ | refine region_ ?_ | refine nil_ ?_ | refine exit_ ?_ | refine cond_f rfl ?_ | refine stepY (y_move rfl) rfl ?_ | refine stepY (y_cmpF rfl rfl rfl (by omega)) rfl ?_)
    refine seal_L (i := 65) (h := 16) rfl rfl rfl rfl ?_
    rw [← hv]
    refine call_ Try.func79 rfl rfl (Trim_c o hw) rfl (by repeat (first | exact .tag _ _ | apply Les.cons | exact .nil)) rfl ?_
    repeat (first | refine nil_ ?_ | refine ret_ ?_ | refine stepY (y_assign rfl) rfl ?_)
    ((apply fin_r); (repeat (first | exact .nil | exact .tmp rfl | apply ResL.cons)); (repeat (exact .refl _)))
end Go.Av
