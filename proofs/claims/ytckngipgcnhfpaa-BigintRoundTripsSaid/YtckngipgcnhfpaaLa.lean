import Derived.Test.YtckngipgcnhfpaaL9
import Derived.Test.YtckngipgcnhfpaaAw
set_option maxHeartbeats 4000000
set_option maxRecDepth 100000
set_option linter.unusedVariables false
set_option linter.unusedSimpArgs false
namespace Go.Av
open Go Go.Proofs
theorem rd_bd {l : List Int} (h : wf l) (i : Nat) : 0 ≤ rd l i ∧ rd l i < 4294967296 := by rw [rd_dgk h i]; exact dg_bd _ _

theorem sum_lt {a b k : Nat} (ha : a < B ^ k) (hb : b < B ^ k) : a + b < B ^ (k + 1) := by
  rw [Nat.pow_succ]
  unfold B at *
  omega
theorem rlimb_c (l : List Int) (i : Nat) (hw : wf l) : Con Try.prog 73 [Li l, I i] (UU (dg (val l) i)) := by
  refine con_of Try.func73 rfl rfl rfl rfl rfl ?_
  have hr := rd_bd hw i
  rw [← rd_dgk hw i]
  by_cases h : (i : Int) < l.length
  · repeat (first | refine seq_ ?_ | refine region_ ?_ | refine nil_ ?_ | refine ret_ ?_ | refine cond_t rfl ?_ | refine stepY (y_move rfl) rfl ?_ | refine stepY (y_assign rfl) rfl ?_ | refine stepY (y_load_rc1 rfl rfl) rfl ?_ | refine stepY (y_len_si rfl) rfl ?_ | refine stepY (y_convn rfl (by simp only [InK, loK, hiK]; omega)) rfl ?_ | refine stepY (y_index_si rfl rfl (by omega) (by omega)) rfl ?_ | refine stepY (y_cmpT rfl rfl rfl (by omega)) rfl ?_)
    ((apply fin_r); (repeat (first | exact .nil | exact .tmp rfl | apply ResL.cons)); (repeat (exact .refl _)))
  · have hz : rd l i = 0 := by unfold rd; rw [List.getD_eq_getElem?_getD, List.getElem?_eq_none (by omega)]; rfl
    repeat (first | refine seq_ ?_ | refine region_ ?_ | refine nil_ ?_ | refine skip_ ?_ | refine ret_ ?_ | refine cond_f rfl ?_ | refine stepY (y_move rfl) rfl ?_ | refine stepY (y_assign rfl) rfl ?_ | refine stepY (y_len_si rfl) rfl ?_ | refine stepY (y_cmpF rfl rfl rfl (by omega)) rfl ?_)
    rw [hz]
    ((apply fin_r); (repeat (first | exact .nil | exact .tmp rfl | apply ResL.cons)); (repeat (exact .refl _)))

/-! barscanref02.order -/
theorem order_c (a b : List Int) (ha : wf a) (hb : wf b) (hla : a.length < 4294967296) (hlb : b.length < 4294967296) : Con Try.prog 60 [Li a, Li b] (I (sg (val a) (val b))) := by
  refine con_of Try.func60 rfl rfl rfl rfl rfl ?_
  obtain ⟨m, hm, hma, hmb⟩ : ∃ m : Nat, (m = a.length ∧ b.length ≤ a.length ∨ m = b.length ∧ a.length ≤ b.length) ∧ a.length ≤ m ∧ b.length ≤ m := by
    rcases Nat.le_total b.length a.length with h | h
    · exact ⟨a.length, .inl ⟨rfl, h⟩, Nat.le_refl _, h⟩
    · exact ⟨b.length, .inr ⟨rfl, h⟩, h, Nat.le_refl _⟩
  have hva := Nat.lt_of_lt_of_le (val_lt ha) (Nat.pow_le_pow_right B_pos hma)
  have hvb := Nat.lt_of_lt_of_le (val_lt hb) (Nat.pow_le_pow_right B_pos hmb)
  have key : ∀ x : Int, x = m → Tr Try.prog Try.f60.ntmps .skip [] [] (fun _ _ _ => True) := fun x _ => skip_ trivial
  rcases hm with ⟨rfl, hm⟩ | ⟨rfl, hm⟩
  · repeat (first | refine seq_ ?_ | refine region_ ?_ | refine nil_ ?_ | refine block_ ?_ | refine stepY (y_move rfl) rfl ?_ | refine stepY (y_assign rfl) rfl ?_ | (first | refine stepY (y_len_si rfl) rfl ?_ | refine stepY (y_maxl rfl rfl (by omega)) rfl ?_) | refine stepY (y_binn rfl rfl rfl (by simp only [InK, loK, hiK]; omega)) rfl ?_)
    refine loop_ (α := Nat) (fun k => ([(0, .p (Li a)), (1, .p (Li b)), (6, .p (I ((k : Int) - 1)))], [])) (fun k => k ≤ a.length ∧ val a / B ^ k = val b / B ^ k) id (a.length) ⟨Nat.le_refl _, by rw [Nat.div_eq_of_lt hva, Nat.div_eq_of_lt hvb]⟩ ?_ ?_ ?_
    · (repeat (first | exact sub_nil | refine sub_cons rfl ?_))
    · (repeat (exact subH_nil))
    intro k ⟨hk, he⟩
    by_cases h0 : k = 0
    · subst h0
      have hab : val a = val b := by simpa using he
      rw [hab]
      repeat (first | refine seq_ ?_ | refine region_ ?_ | refine nil_ ?_ | refine exit_ ?_ | refine ret_ ?_ | refine cond_f rfl ?_ | refine stepY (y_move rfl) rfl ?_ | refine stepY (y_assign rfl) rfl ?_ | refine stepY (y_cmpF rfl rfl rfl (by omega)) rfl ?_)
      rw [sg_eq]
      ((apply fin_r); (repeat (first | exact .nil | exact .tmp rfl | apply ResL.cons)); (repeat (exact .refl _)))
    · obtain ⟨j, rfl⟩ : ∃ j, k = j + 1 := ⟨k - 1, by omega⟩
      rw [show (((j + 1 : Nat) : Int) - 1) = (j : Int) by omega]
      by_cases h1 : dg (val a) j = dg (val b) j
      · repeat (first | refine seq_ ?_ | refine region_ ?_ | refine nil_ ?_ | refine skip_ ?_ | refine block_ ?_ | refine cond_t rfl ?_ | refine stepY (y_move rfl) rfl ?_ | refine stepY (y_cmpT rfl rfl rfl (by omega)) rfl ?_)
        refine call_ Try.func73 rfl rfl (rlimb_c a j ha) rfl (by repeat (first | exact .refl _ | apply Les.cons | exact .nil)) rfl ?_
        repeat (refine stepY (y_move rfl) rfl ?_)
        refine call_ Try.func73 rfl rfl (rlimb_c b j hb) rfl (by repeat (first | exact .refl _ | apply Les.cons | exact .nil)) rfl ?_
        repeat (first | refine seq_ ?_ | refine region_ ?_ | refine nil_ ?_ | refine skip_ ?_ | refine cond_f rfl ?_ | refine stepY (y_move rfl) rfl ?_ | refine stepY (y_cmpF rfl rfl rfl (by omega)) rfl ?_)
        refine call_ Try.func73 rfl rfl (rlimb_c a j ha) rfl (by repeat (first | exact .refl _ | apply Les.cons | exact .nil)) rfl ?_
        repeat (refine stepY (y_move rfl) rfl ?_)
        refine call_ Try.func73 rfl rfl (rlimb_c b j hb) rfl (by repeat (first | exact .refl _ | apply Les.cons | exact .nil)) rfl ?_
        repeat (first | refine region_ ?_ | refine nil_ ?_ | refine skip_ ?_ | refine cond_f rfl ?_ | refine stepY (y_move rfl) rfl ?_ | refine stepY (y_assign rfl) rfl ?_ | refine stepY (y_binn rfl rfl rfl (by simp only [InK, loK, hiK]; omega)) rfl ?_ | refine stepY (y_cmpF rfl rfl rfl (by omega)) rfl ?_)
        refine ⟨j, ⟨by omega, ?_⟩, by simp only [id]; omega, ?_, ?_⟩
        · rw [div_split, div_split (val b), he, h1]
        · (repeat (first | exact sub_nil | refine sub_cons rfl ?_))
        · (repeat (exact subH_nil))
      · by_cases h2 : dg (val a) j < dg (val b) j
        · repeat (first | refine seq_ ?_ | refine region_ ?_ | refine nil_ ?_ | refine skip_ ?_ | refine block_ ?_ | refine cond_t rfl ?_ | refine stepY (y_move rfl) rfl ?_ | refine stepY (y_cmpT rfl rfl rfl (by omega)) rfl ?_)
          refine call_ Try.func73 rfl rfl (rlimb_c a j ha) rfl (by repeat (first | exact .refl _ | apply Les.cons | exact .nil)) rfl ?_
          repeat (refine stepY (y_move rfl) rfl ?_)
          refine call_ Try.func73 rfl rfl (rlimb_c b j hb) rfl (by repeat (first | exact .refl _ | apply Les.cons | exact .nil)) rfl ?_
          repeat (first | refine seq_ ?_ | refine region_ ?_ | refine nil_ ?_ | refine ret_ ?_ | refine cond_t rfl ?_ | refine stepY (y_assign rfl) rfl ?_ | refine stepY (y_cmpT rfl rfl rfl (by omega)) rfl ?_)
          rw [sg_lt (top_lt he h2)]
          ((apply fin_r); (repeat (first | exact .nil | exact .tmp rfl | apply ResL.cons)); (repeat (exact .refl _)))
        · repeat (first | refine seq_ ?_ | refine region_ ?_ | refine nil_ ?_ | refine skip_ ?_ | refine block_ ?_ | refine cond_t rfl ?_ | refine stepY (y_move rfl) rfl ?_ | refine stepY (y_cmpT rfl rfl rfl (by omega)) rfl ?_)
          refine call_ Try.func73 rfl rfl (rlimb_c a j ha) rfl (by repeat (first | exact .refl _ | apply Les.cons | exact .nil)) rfl ?_
          repeat (refine stepY (y_move rfl) rfl ?_)
          refine call_ Try.func73 rfl rfl (rlimb_c b j hb) rfl (by repeat (first | exact .refl _ | apply Les.cons | exact .nil)) rfl ?_
          repeat (first | refine seq_ ?_ | refine region_ ?_ | refine nil_ ?_ | refine skip_ ?_ | refine cond_f rfl ?_ | refine stepY (y_move rfl) rfl ?_ | refine stepY (y_cmpF rfl rfl rfl (by omega)) rfl ?_)
          refine call_ Try.func73 rfl rfl (rlimb_c a j ha) rfl (by repeat (first | exact .refl _ | apply Les.cons | exact .nil)) rfl ?_
          repeat (refine stepY (y_move rfl) rfl ?_)
          refine call_ Try.func73 rfl rfl (rlimb_c b j hb) rfl (by repeat (first | exact .refl _ | apply Les.cons | exact .nil)) rfl ?_
          repeat (first | refine seq_ ?_ | refine region_ ?_ | refine nil_ ?_ | refine ret_ ?_ | refine cond_t rfl ?_ | refine stepY (y_assign rfl) rfl ?_ | refine stepY (y_cmpT rfl rfl rfl (by omega)) rfl ?_)
          rw [sg_gt (top_lt he.symm (by omega))]
          ((apply fin_r); (repeat (first | exact .nil | exact .tmp rfl | apply ResL.cons)); (repeat (exact .refl _)))
  · repeat (first | refine seq_ ?_ | refine region_ ?_ | refine nil_ ?_ | refine block_ ?_ | refine stepY (y_move rfl) rfl ?_ | refine stepY (y_assign rfl) rfl ?_ | (first | refine stepY (y_len_si rfl) rfl ?_ | refine stepY (y_maxr rfl rfl (by omega)) rfl ?_) | refine stepY (y_binn rfl rfl rfl (by simp only [InK, loK, hiK]; omega)) rfl ?_)
    refine loop_ (α := Nat) (fun k => ([(0, .p (Li a)), (1, .p (Li b)), (6, .p (I ((k : Int) - 1)))], [])) (fun k => k ≤ b.length ∧ val a / B ^ k = val b / B ^ k) id (b.length) ⟨Nat.le_refl _, by rw [Nat.div_eq_of_lt hva, Nat.div_eq_of_lt hvb]⟩ ?_ ?_ ?_
    · (repeat (first | exact sub_nil | refine sub_cons rfl ?_))
    · (repeat (exact subH_nil))
    intro k ⟨hk, he⟩
    by_cases h0 : k = 0
    · subst h0
      have hab : val a = val b := by simpa using he
      rw [hab]
      repeat (first | refine seq_ ?_ | refine region_ ?_ | refine nil_ ?_ | refine exit_ ?_ | refine ret_ ?_ | refine cond_f rfl ?_ | refine stepY (y_move rfl) rfl ?_ | refine stepY (y_assign rfl) rfl ?_ | refine stepY (y_cmpF rfl rfl rfl (by omega)) rfl ?_)
      rw [sg_eq]
      ((apply fin_r); (repeat (first | exact .nil | exact .tmp rfl | apply ResL.cons)); (repeat (exact .refl _)))
    · obtain ⟨j, rfl⟩ : ∃ j, k = j + 1 := ⟨k - 1, by omega⟩
      rw [show (((j + 1 : Nat) : Int) - 1) = (j : Int) by omega]
      by_cases h1 : dg (val a) j = dg (val b) j
      · repeat (first | refine seq_ ?_ | refine region_ ?_ | refine nil_ ?_ | refine skip_ ?_ | refine block_ ?_ | refine cond_t rfl ?_ | refine stepY (y_move rfl) rfl ?_ | refine stepY (y_cmpT rfl rfl rfl (by omega)) rfl ?_)
        refine call_ Try.func73 rfl rfl (rlimb_c a j ha) rfl (by repeat (first | exact .refl _ | apply Les.cons | exact .nil)) rfl ?_
        repeat (refine stepY (y_move rfl) rfl ?_)
        refine call_ Try.func73 rfl rfl (rlimb_c b j hb) rfl (by repeat (first | exact .refl _ | apply Les.cons | exact .nil)) rfl ?_
        repeat (first | refine seq_ ?_ | refine region_ ?_ | refine nil_ ?_ | refine skip_ ?_ | refine cond_f rfl ?_ | refine stepY (y_move rfl) rfl ?_ | refine stepY (y_cmpF rfl rfl rfl (by omega)) rfl ?_)
        refine call_ Try.func73 rfl rfl (rlimb_c a j ha) rfl (by repeat (first | exact .refl _ | apply Les.cons | exact .nil)) rfl ?_
        repeat (refine stepY (y_move rfl) rfl ?_)
        refine call_ Try.func73 rfl rfl (rlimb_c b j hb) rfl (by repeat (first | exact .refl _ | apply Les.cons | exact .nil)) rfl ?_
        repeat (first | refine region_ ?_ | refine nil_ ?_ | refine skip_ ?_ | refine cond_f rfl ?_ | refine stepY (y_move rfl) rfl ?_ | refine stepY (y_assign rfl) rfl ?_ | refine stepY (y_binn rfl rfl rfl (by simp only [InK, loK, hiK]; omega)) rfl ?_ | refine stepY (y_cmpF rfl rfl rfl (by omega)) rfl ?_)
        refine ⟨j, ⟨by omega, ?_⟩, by simp only [id]; omega, ?_, ?_⟩
        · rw [div_split, div_split (val b), he, h1]
        · (repeat (first | exact sub_nil | refine sub_cons rfl ?_))
        · (repeat (exact subH_nil))
      · by_cases h2 : dg (val a) j < dg (val b) j
        · repeat (first | refine seq_ ?_ | refine region_ ?_ | refine nil_ ?_ | refine skip_ ?_ | refine block_ ?_ | refine cond_t rfl ?_ | refine stepY (y_move rfl) rfl ?_ | refine stepY (y_cmpT rfl rfl rfl (by omega)) rfl ?_)
          refine call_ Try.func73 rfl rfl (rlimb_c a j ha) rfl (by repeat (first | exact .refl _ | apply Les.cons | exact .nil)) rfl ?_
          repeat (refine stepY (y_move rfl) rfl ?_)
          refine call_ Try.func73 rfl rfl (rlimb_c b j hb) rfl (by repeat (first | exact .refl _ | apply Les.cons | exact .nil)) rfl ?_
          repeat (first | refine seq_ ?_ | refine region_ ?_ | refine nil_ ?_ | refine ret_ ?_ | refine cond_t rfl ?_ | refine stepY (y_assign rfl) rfl ?_ | refine stepY (y_cmpT rfl rfl rfl (by omega)) rfl ?_)
          rw [sg_lt (top_lt he h2)]
          ((apply fin_r); (repeat (first | exact .nil | exact .tmp rfl | apply ResL.cons)); (repeat (exact .refl _)))
        · repeat (first | refine seq_ ?_ | refine region_ ?_ | refine nil_ ?_ | refine skip_ ?_ | refine block_ ?_ | refine cond_t rfl ?_ | refine stepY (y_move rfl) rfl ?_ | refine stepY (y_cmpT rfl rfl rfl (by omega)) rfl ?_)
          refine call_ Try.func73 rfl rfl (rlimb_c a j ha) rfl (by repeat (first | exact .refl _ | apply Les.cons | exact .nil)) rfl ?_
          repeat (refine stepY (y_move rfl) rfl ?_)
          refine call_ Try.func73 rfl rfl (rlimb_c b j hb) rfl (by repeat (first | exact .refl _ | apply Les.cons | exact .nil)) rfl ?_
          repeat (first | refine seq_ ?_ | refine region_ ?_ | refine nil_ ?_ | refine skip_ ?_ | refine cond_f rfl ?_ | refine stepY (y_move rfl) rfl ?_ | refine stepY (y_cmpF rfl rfl rfl (by omega)) rfl ?_)
          refine call_ Try.func73 rfl rfl (rlimb_c a j ha) rfl (by repeat (first | exact .refl _ | apply Les.cons | exact .nil)) rfl ?_
          repeat (refine stepY (y_move rfl) rfl ?_)
          refine call_ Try.func73 rfl rfl (rlimb_c b j hb) rfl (by repeat (first | exact .refl _ | apply Les.cons | exact .nil)) rfl ?_
          repeat (first | refine seq_ ?_ | refine region_ ?_ | refine nil_ ?_ | refine ret_ ?_ | refine cond_t rfl ?_ | refine stepY (y_assign rfl) rfl ?_ | refine stepY (y_cmpT rfl rfl rfl (by omega)) rfl ?_)
          rw [sg_gt (top_lt he.symm (by omega))]
          ((apply fin_r); (repeat (first | exact .nil | exact .tmp rfl | apply ResL.cons)); (repeat (exact .refl _)))

/-! barscanref02.plus -/
theorem plus_c (a b : List Int) (ha : wf a) (hb : wf b) (hla : a.length < 4294967295) (hlb : b.length < 4294967295) : Con Try.prog 57 [Li a, Li b] (FM (val a + val b)) := by
  refine con_of Try.func57 rfl rfl rfl rfl rfl ?_
  rcases Nat.le_total b.length a.length with h | h
  · have hva := val_lt ha
    have hvb := Nat.lt_of_lt_of_le (val_lt hb) (Nat.pow_le_pow_right B_pos h)
    repeat (first | refine seq_ ?_ | refine region_ ?_ | refine nil_ ?_ | refine block_ ?_ | refine stepY (y_assign rfl) rfl ?_)
    refine nil_C (i := 5) 57 .u32 rfl rfl rfl ?_
    refine loop_ (α := Nat) (fun k => ([(0, .p (Li a)), (1, .p (Li b)), (5, .vec 5), (6, .p (UU (cy (val a) (val b) k))), (7, .p (I k))], [(5, .vi 57 .u32 (padd k (val a + val b)))])) (fun k => k ≤ a.length) (fun k => a.length - k) 0 (Nat.zero_le _) ?_ ?_ ?_
    · rw [cy_zero]; (repeat (first | exact sub_nil | refine sub_cons rfl ?_))
    · (repeat (first | exact subH_nil | refine subH_cons rfl ?_))
    intro k hk
    have hl : (padd k (val a + val b)).length = k := padd_length _ _
    have hstep := cy_step (val a) (val b) k
    have h1 := dg_lt (val a) k
    have h2 := dg_lt (val b) k
    have h3 := cy_le (val a) (val b) k
    have h4 := dg_lt (val a + val b) k
    unfold B at hstep h1 h2 h4
    by_cases hlt : k < a.length
    · repeat (first | refine seq_ ?_ | refine region_ ?_ | refine nil_ ?_ | refine skip_ ?_ | refine block_ ?_ | refine cond_t rfl ?_ | refine stepY (y_move rfl) rfl ?_ | (first | refine stepY (y_len_si rfl) rfl ?_ | refine stepY (y_maxl rfl rfl (by omega)) rfl ?_) | refine stepY (y_cmpT rfl rfl rfl (by omega)) rfl ?_)
      refine call_ Try.func73 rfl rfl (rlimb_c a k ha) rfl (by repeat (first | exact .refl _ | apply Les.cons | exact .nil)) rfl ?_
      repeat (refine stepY (y_move rfl) rfl ?_)
      refine call_ Try.func73 rfl rfl (rlimb_c b k hb) rfl (by repeat (first | exact .refl _ | apply Les.cons | exact .nil)) rfl ?_
      repeat (first | refine seq_ ?_ | refine region_ ?_ | refine nil_ ?_ | refine stepY (y_move rfl) rfl ?_ | refine stepY (y_assign rfl) rfl ?_ | refine stepY (y_convn rfl (by simp only [InK, loK, hiK]; omega)) rfl ?_ | refine stepY (y_binn rfl rfl rfl (by simp only [InK, loK, hiK]; omega)) rfl ?_ | refine stepY (y_remp rfl rfl (by omega) (by omega)) rfl ?_ | refine stepE (e_bs_vi (k := .u32) rfl rfl rfl rfl rfl) ?_)
      rw [show ((dg (val a) k : Int) + dg (val b) k + cy (val a) (val b) k) % 4294967296 = dg (val a + val b) k by omega]
      refine stepE (e_app_vi rfl rfl rfl (src_vi rfl rfl) (by simp only [List.length_cons, List.length_nil]; omega) rfl rfl) ?_
      repeat (first | refine region_ ?_ | refine nil_ ?_ | refine stepY (y_move rfl) rfl ?_ | refine stepY (y_assign rfl) rfl ?_ | refine stepY (y_binn rfl rfl rfl (by simp only [InK, loK, hiK]; omega)) rfl ?_ | refine stepY (y_quop rfl rfl (by omega) (by omega) (by simp only [InK, loK, hiK]; omega)) rfl ?_)
      rw [← padd_succ, show ((dg (val a) k : Int) + dg (val b) k + cy (val a) (val b) k) / 4294967296 = cy (val a) (val b) (k + 1) by omega]
      refine ⟨k + 1, by omega, by omega, ?_, ?_⟩ <;> (repeat (first | exact sub_nil | exact subH_nil | refine sub_cons rfl ?_ | refine subH_cons rfl ?_))
    · obtain rfl : k = a.length := by omega
      repeat (first | refine seq_ ?_ | refine region_ ?_ | refine nil_ ?_ | refine exit_ ?_ | refine cond_f rfl ?_ | refine stepY (y_move rfl) rfl ?_ | (first | refine stepY (y_len_si rfl) rfl ?_ | refine stepY (y_maxl rfl rfl (by omega)) rfl ?_) | refine stepY (y_convn rfl (by simp only [InK, loK, hiK]; omega)) rfl ?_ | refine stepY (y_cmpF rfl rfl rfl (by omega)) rfl ?_ | refine stepE (e_bs_vi (k := .u32) rfl rfl rfl rfl rfl) ?_)
      refine stepE (e_app_vi rfl rfl rfl (src_vi rfl rfl) (by simp only [List.length_cons, List.length_nil]; omega) rfl rfl) ?_
      repeat (first | refine seq_ ?_ | refine region_ ?_ | refine nil_ ?_ | refine stepY (y_move rfl) rfl ?_ | refine stepY (y_assign rfl) rfl ?_)
      rw [cy_top hva hvb, ← padd_succ]
      refine seal_L (i := 40) (h := 5) rfl rfl rfl rfl ?_
      have ht := RTrim_c (padd (a.length + 1) (val a + val b)) (wf_padd _ _) (by rw [padd_length]; omega)
      rw [val_padd, Nat.mod_eq_of_lt (sum_lt hva hvb)] at ht
      refine call_ Try.func91 rfl rfl ht rfl (by repeat (first | exact .tag _ _ | apply Les.cons | exact .nil)) rfl ?_
      repeat (first | refine nil_ ?_ | refine ret_ ?_ | refine stepY (y_assign rfl) rfl ?_)
      ((apply fin_r); (repeat (first | exact .nil | exact .tmp rfl | apply ResL.cons)); (repeat (exact .refl _)))
  · have hva := Nat.lt_of_lt_of_le (val_lt ha) (Nat.pow_le_pow_right B_pos h)
    have hvb := val_lt hb
    repeat (first | refine seq_ ?_ | refine region_ ?_ | refine nil_ ?_ | refine block_ ?_ | refine stepY (y_assign rfl) rfl ?_)
    refine nil_C (i := 5) 57 .u32 rfl rfl rfl ?_
    refine loop_ (α := Nat) (fun k => ([(0, .p (Li a)), (1, .p (Li b)), (5, .vec 5), (6, .p (UU (cy (val a) (val b) k))), (7, .p (I k))], [(5, .vi 57 .u32 (padd k (val a + val b)))])) (fun k => k ≤ b.length) (fun k => b.length - k) 0 (Nat.zero_le _) ?_ ?_ ?_
    · rw [cy_zero]; (repeat (first | exact sub_nil | refine sub_cons rfl ?_))
    · (repeat (first | exact subH_nil | refine subH_cons rfl ?_))
    intro k hk
    have hl : (padd k (val a + val b)).length = k := padd_length _ _
    have hstep := cy_step (val a) (val b) k
    have h1 := dg_lt (val a) k
    have h2 := dg_lt (val b) k
    have h3 := cy_le (val a) (val b) k
    have h4 := dg_lt (val a + val b) k
    unfold B at hstep h1 h2 h4
    by_cases hlt : k < b.length
    · repeat (first | refine seq_ ?_ | refine region_ ?_ | refine nil_ ?_ | refine skip_ ?_ | refine block_ ?_ | refine cond_t rfl ?_ | refine stepY (y_move rfl) rfl ?_ | (first | refine stepY (y_len_si rfl) rfl ?_ | refine stepY (y_maxr rfl rfl (by omega)) rfl ?_) | refine stepY (y_cmpT rfl rfl rfl (by omega)) rfl ?_)
      refine call_ Try.func73 rfl rfl (rlimb_c a k ha) rfl (by repeat (first | exact .refl _ | apply Les.cons | exact .nil)) rfl ?_
      repeat (refine stepY (y_move rfl) rfl ?_)
      refine call_ Try.func73 rfl rfl (rlimb_c b k hb) rfl (by repeat (first | exact .refl _ | apply Les.cons | exact .nil)) rfl ?_
      repeat (first | refine seq_ ?_ | refine region_ ?_ | refine nil_ ?_ | refine stepY (y_move rfl) rfl ?_ | refine stepY (y_assign rfl) rfl ?_ | refine stepY (y_convn rfl (by simp only [InK, loK, hiK]; omega)) rfl ?_ | refine stepY (y_binn rfl rfl rfl (by simp only [InK, loK, hiK]; omega)) rfl ?_ | refine stepY (y_remp rfl rfl (by omega) (by omega)) rfl ?_ | refine stepE (e_bs_vi (k := .u32) rfl rfl rfl rfl rfl) ?_)
      rw [show ((dg (val a) k : Int) + dg (val b) k + cy (val a) (val b) k) % 4294967296 = dg (val a + val b) k by omega]
      refine stepE (e_app_vi rfl rfl rfl (src_vi rfl rfl) (by simp only [List.length_cons, List.length_nil]; omega) rfl rfl) ?_
      repeat (first | refine region_ ?_ | refine nil_ ?_ | refine stepY (y_move rfl) rfl ?_ | refine stepY (y_assign rfl) rfl ?_ | refine stepY (y_binn rfl rfl rfl (by simp only [InK, loK, hiK]; omega)) rfl ?_ | refine stepY (y_quop rfl rfl (by omega) (by omega) (by simp only [InK, loK, hiK]; omega)) rfl ?_)
      rw [← padd_succ, show ((dg (val a) k : Int) + dg (val b) k + cy (val a) (val b) k) / 4294967296 = cy (val a) (val b) (k + 1) by omega]
      refine ⟨k + 1, by omega, by omega, ?_, ?_⟩ <;> (repeat (first | exact sub_nil | exact subH_nil | refine sub_cons rfl ?_ | refine subH_cons rfl ?_))
    · obtain rfl : k = b.length := by omega
      repeat (first | refine seq_ ?_ | refine region_ ?_ | refine nil_ ?_ | refine exit_ ?_ | refine cond_f rfl ?_ | refine stepY (y_move rfl) rfl ?_ | (first | refine stepY (y_len_si rfl) rfl ?_ | refine stepY (y_maxr rfl rfl (by omega)) rfl ?_) | refine stepY (y_convn rfl (by simp only [InK, loK, hiK]; omega)) rfl ?_ | refine stepY (y_cmpF rfl rfl rfl (by omega)) rfl ?_ | refine stepE (e_bs_vi (k := .u32) rfl rfl rfl rfl rfl) ?_)
      refine stepE (e_app_vi rfl rfl rfl (src_vi rfl rfl) (by simp only [List.length_cons, List.length_nil]; omega) rfl rfl) ?_
      repeat (first | refine seq_ ?_ | refine region_ ?_ | refine nil_ ?_ | refine stepY (y_move rfl) rfl ?_ | refine stepY (y_assign rfl) rfl ?_)
      rw [cy_top hva hvb, ← padd_succ]
      refine seal_L (i := 40) (h := 5) rfl rfl rfl rfl ?_
      have ht := RTrim_c (padd (b.length + 1) (val a + val b)) (wf_padd _ _) (by rw [padd_length]; omega)
      rw [val_padd, Nat.mod_eq_of_lt (sum_lt hva hvb)] at ht
      refine call_ Try.func91 rfl rfl ht rfl (by repeat (first | exact .tag _ _ | apply Les.cons | exact .nil)) rfl ?_
      repeat (first | refine nil_ ?_ | refine ret_ ?_ | refine stepY (y_assign rfl) rfl ?_)
      ((apply fin_r); (repeat (first | exact .nil | exact .tmp rfl | apply ResL.cons)); (repeat (exact .refl _)))

/-! barscanref02.minus -/
theorem minus_c (a b : List Int) (ha : wf a) (hb : wf b) (hla : a.length < 4294967295) (hab : val b ≤ val a) : Con Try.prog 58 [Li a, Li b] (FM (val a - val b)) := by
  refine con_of Try.func58 rfl rfl rfl rfl rfl ?_
  repeat (first | refine seq_ ?_ | refine region_ ?_ | refine nil_ ?_ | refine block_ ?_ | refine stepY (y_assign rfl) rfl ?_)
  refine nil_C (i := 5) 57 .u32 rfl rfl rfl ?_
  refine loop_ (α := Nat) (fun k => ([(0, .p (Li a)), (1, .p (Li b)), (5, .vec 5), (6, .p (UU (bw (val a) (val b) k))), (7, .p (I k))], [(5, .vi 57 .u32 (padd k (val a - val b)))])) (fun k => k ≤ a.length) (fun k => a.length - k) 0 (Nat.zero_le _) ?_ ?_ ?_
  · rw [bw_zero]; (repeat (first | exact sub_nil | refine sub_cons rfl ?_))
  · (repeat (first | exact subH_nil | refine subH_cons rfl ?_))
  intro k hk
  have hl : (padd k (val a - val b)).length = k := padd_length _ _
  have hstep := bw_step hab k
  have h1 := dg_bd (val a) k
  have h2 := dg_bd (val b) k
  have h3 := bw_le (val a) (val b) k
  have h3' := bw_le (val a) (val b) (k + 1)
  have h4 := dg_bd (val a - val b) k
  by_cases hlt : k < a.length
  · repeat (first | refine seq_ ?_ | refine region_ ?_ | refine nil_ ?_ | refine skip_ ?_ | refine block_ ?_ | refine cond_t rfl ?_ | refine stepY (y_move rfl) rfl ?_ | refine stepY (y_len_si rfl) rfl ?_ | refine stepY (y_cmpT rfl rfl rfl (by omega)) rfl ?_)
    refine call_ Try.func73 rfl rfl (rlimb_c a k ha) rfl (by repeat (first | exact .refl _ | apply Les.cons | exact .nil)) rfl ?_
    repeat (first | refine stepY (y_move rfl) rfl ?_ | refine stepY (y_binn rfl rfl rfl (by simp only [InK, loK, hiK]; omega)) rfl ?_)
    refine call_ Try.func73 rfl rfl (rlimb_c b k hb) rfl (by repeat (first | exact .refl _ | apply Les.cons | exact .nil)) rfl ?_
    repeat (first | refine seq_ ?_ | refine region_ ?_ | refine nil_ ?_ | refine stepY (y_move rfl) rfl ?_ | refine stepY (y_assign rfl) rfl ?_ | refine stepY (y_convn rfl (by simp only [InK, loK, hiK]; omega)) rfl ?_ | refine stepY (y_binn rfl rfl rfl (by simp only [InK, loK, hiK]; omega)) rfl ?_ | refine stepY (y_remp rfl rfl (by omega) (by omega)) rfl ?_ | refine stepE (e_bs_vi (k := .u32) rfl rfl rfl rfl rfl) ?_)
    rw [show (4294967296 + (dg (val a) k : Int) - dg (val b) k - bw (val a) (val b) k) % 4294967296 = dg (val a - val b) k by omega]
    refine stepE (e_app_vi rfl rfl rfl (src_vi rfl rfl) (by simp only [List.length_cons, List.length_nil]; omega) rfl rfl) ?_
    repeat (first | refine region_ ?_ | refine nil_ ?_ | refine stepY (y_move rfl) rfl ?_ | refine stepY (y_assign rfl) rfl ?_ | refine stepY (y_binn rfl rfl rfl (by simp only [InK, loK, hiK]; omega)) rfl ?_ | refine stepY (y_binn rfl rfl rfl (by simp only [InK, loK, hiK]; omega)) rfl ?_ | refine stepY (y_quop rfl rfl (by omega) (by omega) (by simp only [InK, loK, hiK]; omega)) rfl ?_)
    rw [← padd_succ, show 1 - (4294967296 + (dg (val a) k : Int) - dg (val b) k - bw (val a) (val b) k) / 4294967296 = bw (val a) (val b) (k + 1) by omega]
    refine ⟨k + 1, by omega, by omega, ?_, ?_⟩ <;> (repeat (first | exact sub_nil | exact subH_nil | refine sub_cons rfl ?_ | refine subH_cons rfl ?_))
  · obtain rfl : k = a.length := by omega
    repeat (first | refine seq_ ?_ | refine region_ ?_ | refine nil_ ?_ | refine exit_ ?_ | refine cond_f rfl ?_ | refine stepY (y_move rfl) rfl ?_ | refine stepY (y_len_si rfl) rfl ?_ | refine stepY (y_cmpF rfl rfl rfl (by omega)) rfl ?_)
    refine seal_L (i := 34) (h := 5) rfl rfl rfl rfl ?_
    have ht := RTrim_c (padd a.length (val a - val b)) (wf_padd _ _) (by rw [padd_length]; omega)
    rw [val_padd, Nat.mod_eq_of_lt (Nat.lt_of_le_of_lt (Nat.sub_le _ _) (val_lt ha))] at ht
    refine call_ Try.func91 rfl rfl ht rfl (by repeat (first | exact .tag _ _ | apply Les.cons | exact .nil)) rfl ?_
    repeat (first | refine nil_ ?_ | refine ret_ ?_ | refine stepY (y_assign rfl) rfl ?_)
    ((apply fin_r); (repeat (first | exact .nil | exact .tmp rfl | apply ResL.cons)); (repeat (exact .refl _)))

/-! barscanref02.times -/
theorem times_c (a b : List Int) (ha : wf a) (hb : wf b) (hla : a.length < 2147483648) (hlb : b.length < 2147483647) : Con Try.prog 72 [Li a, Li b] (FM (val a * val b)) := by
  refine con_of Try.func72 rfl rfl rfl rfl rfl ?_
  repeat (first | refine seq_ ?_ | refine region_ ?_ | refine nil_ ?_ | refine stepY (y_move rfl) rfl ?_ | refine stepY (y_assign rfl) rfl ?_ | refine stepY (y_len_si rfl) rfl ?_ | refine stepY (y_binn rfl rfl rfl (by simp only [InK, loK, hiK]; omega)) rfl ?_)
  refine stepE (e_make rfl rfl (by omega) (by omega) rfl rfl) ?_
  repeat (first | refine seq_ ?_ | refine region_ ?_ | refine nil_ ?_ | refine block_ ?_ | refine stepY (y_assign rfl) rfl ?_)
  rw [show ((a.length : Int) + b.length).toNat = a.length + b.length by omega]
  refine loop_ (α := Nat × List Int) (fun y => ([(0, .p (Li a)), (1, .p (Li b)), (5, .vec 15), (6, .p (I y.1))], [(15, .vi 57 .u32 y.2)])) (fun y => y.1 ≤ a.length ∧ wf y.2 ∧ y.2.length = a.length + b.length ∧ val y.2 = (val a % B ^ y.1) * val b) (fun y => a.length - y.1) (0, List.replicate (a.length + b.length) 0) ⟨Nat.zero_le _, wf_zero _, by simp, by simp [val_zero, Nat.mod_one]⟩ ?_ ?_ ?_
  · (repeat (first | exact sub_nil | refine sub_cons rfl ?_))
  · (repeat (first | exact subH_nil | refine subH_cons rfl ?_))
  intro ⟨i, o⟩ ⟨hi, hw, hlo, hv⟩
  dsimp only at hi hw hlo hv ⊢
  by_cases hlt : i < a.length
  · have ra := rd_dgk ha i
    have rb := dg_bd (val a) i
    repeat (first | refine seq_ ?_ | refine region_ ?_ | refine nil_ ?_ | refine skip_ ?_ | refine block_ ?_ | refine cond_t rfl ?_ | refine stepY (y_move rfl) rfl ?_ | refine stepY (y_assign rfl) rfl ?_ | refine stepY (y_len_si rfl) rfl ?_ | refine stepY (y_cmpT rfl rfl rfl (by omega)) rfl ?_)
    refine loop_ (α := Nat × Nat × List Int) (fun y => ([(0, .p (Li a)), (1, .p (Li b)), (5, .vec 15), (6, .p (I i)), (7, .p (UU y.2.1)), (8, .p (I y.1))], [(15, .vi 57 .u32 y.2.2)])) (fun y => y.1 ≤ b.length ∧ PS (val a) (val b) (a.length + b.length) i y.1 y.2.2 y.2.1 b.length) (fun y => b.length - y.1) (0, 0, o) ⟨Nat.zero_le _, PS.first hw hlo hv (val_lt hb)⟩ ?_ ?_ ?_
    · (repeat (first | exact sub_nil | refine sub_cons rfl ?_))
    · (repeat (first | exact subH_nil | refine subH_cons rfl ?_))
    intro ⟨k, c, q⟩ ⟨hk, hp⟩
    dsimp only at hk hp ⊢
    have hlq := hp.l
    by_cases hkl : k < b.length
    · have hs := hp.step (s := dg (val a) i * dg (val b) k + (q.getD (i + k) 0).toNat + c) hkl (by omega) rfl
      have hlim := hp.lim (by omega)
      have rk := rd_dgk hb k
      have rk' := dg_bd (val b) k
      have hc := hp.c
      have hrd : rd q ((i : Int) + k) = q.getD (i + k) 0 := by unfold rd; rw [show ((i : Int) + k).toNat = i + k by omega]
      have hm0 : 0 ≤ rd a i ∧ rd a i < 4294967296 := by rw [ra]; exact rb
      have hm1 : rd a i * rd b k = ((dg (val a) i * dg (val b) k : Nat) : Int) := by rw [ra, rk]; simp
      have hm2 : 0 ≤ rd b k ∧ rd b k < 4294967296 := by rw [rk]; exact rk'
      have hm3 : 0 ≤ rd q ((i : Int) + k) ∧ rd q ((i : Int) + k) < 4294967296 := by rw [hrd]; exact hlim.2
      generalize hP : dg (val a) i * dg (val b) k = p at *
      repeat (first | refine seq_ ?_ | refine region_ ?_ | refine nil_ ?_ | refine skip_ ?_ | refine block_ ?_ | refine cond_t rfl ?_ | refine stepY (y_move rfl) rfl ?_ | refine stepY (y_len_si rfl) rfl ?_ | refine stepY (y_cmpT rfl rfl rfl (by omega)) rfl ?_)
      refine draw_ [(0, true), (1, true), (2, true), (3, true), (4, true), (5, true), (6, true), (7, true), (8, true), (9, true), (10, true), (11, true), (12, true), (13, true), (14, true), (15, true), (16, true), (17, true), (18, true), (19, true), (20, true), (21, true)] 1000 [15] mixed (by kernel_rfl) rfl ?_
      ((refine dY rfl (y_move rfl) rfl rfl rfl rfl ?_); refine dY rfl (y_move rfl) rfl rfl rfl rfl ?_; refine dY rfl (y_index_si rfl rfl (by omega) (by omega)) rfl rfl rfl rfl ?_; refine dY rfl (y_load_rc1 rfl rfl) rfl rfl rfl rfl ?_; refine dY rfl (y_convn rfl (by simp only [InK, loK, hiK]; omega)) rfl rfl rfl rfl ?_; refine dY rfl (y_move rfl) rfl rfl rfl rfl ?_; refine dY rfl (y_move rfl) rfl rfl rfl rfl ?_; refine dY rfl (y_index_si rfl rfl (by omega) (by omega)) rfl rfl rfl rfl ?_; refine dY rfl (y_load_rc1 rfl rfl) rfl rfl rfl rfl ?_; refine dY rfl (y_convn rfl (by simp only [InK, loK, hiK]; omega)) rfl rfl rfl rfl ?_; refine dY rfl (y_binn rfl rfl rfl (by simp only [InK, loK, hiK]; omega)) rfl rfl rfl rfl ?_; refine dY rfl (y_move rfl) rfl rfl rfl rfl ?_; refine dY rfl (y_move rfl) rfl rfl rfl rfl ?_; refine dY rfl (y_move rfl) rfl rfl rfl rfl ?_; refine dY rfl (y_binn rfl rfl rfl (by simp only [InK, loK, hiK]; omega)) rfl rfl rfl rfl ?_; refine dY rfl (y_index_vi rfl rfl rfl (by omega) (by omega)) rfl rfl rfl rfl ?_; refine dY rfl (y_load_vi rfl rfl (by omega) (by omega)) rfl rfl rfl rfl ?_; refine dY rfl (y_convn rfl (by simp only [InK, loK, hiK]; omega)) rfl rfl rfl rfl ?_; refine dY rfl (y_binn rfl rfl rfl (by simp only [InK, loK, hiK]; omega)) rfl rfl rfl rfl ?_; refine dY rfl (y_move rfl) rfl rfl rfl rfl ?_; refine dY rfl (y_binn rfl rfl rfl (by simp only [InK, loK, hiK]; omega)) rfl rfl rfl rfl ?_; refine dY rfl (y_assign rfl) rfl rfl rfl rfl ?_; refine dEnd ?_)
      have e1 : (rd a i * rd b k + rd q ((i : Int) + k) + (c : Int)) = ((p + (q.getD (i + k) 0).toNat + c : Nat) : Int) := by rw [hm1, hrd]; omega
      rw [e1]
      have hlim1 := hlim.1
      repeat (first | refine seq_ ?_ | refine region_ ?_ | refine nil_ ?_ | refine stepY (y_move rfl) rfl ?_ | refine stepY (y_assign rfl) rfl ?_ | refine stepY (y_convn rfl (by simp only [InK, loK, hiK]; omega)) rfl ?_ | refine stepY (y_index_vi rfl rfl rfl (by omega) (by omega)) rfl ?_ | refine stepY (y_binn rfl rfl rfl (by simp only [InK, loK, hiK]; omega)) rfl ?_ | refine stepY (y_quop rfl rfl (by omega) (by omega) (by simp only [InK, loK, hiK]; omega)) rfl ?_ | refine stepY (y_remp rfl rfl (by omega) (by omega)) rfl ?_ | refine stepE (e_store_vi rfl rfl rfl (by omega) (by omega)) ?_)
      rw [show ((i : Int) + k).toNat = i + k by omega]
      refine ⟨(k + 1, (p + (q.getD (i + k) 0).toNat + c) / B, q.set (i + k) (((p + (q.getD (i + k) 0).toNat + c) % B : Nat) : Int)), ⟨by omega, hs⟩, by dsimp only; omega, ?_, ?_⟩ <;> (repeat (first | exact sub_nil | exact subH_nil | refine sub_cons rfl ?_ | refine subH_cons rfl ?_))
    · obtain rfl : k = b.length := by omega
      have hl := hp.last (val_lt hb) (by omega)
      have hc := hp.c
      unfold B at hc
      repeat (first | refine seq_ ?_ | refine region_ ?_ | refine nil_ ?_ | refine exit_ ?_ | refine cond_f rfl ?_ | refine stepY (y_move rfl) rfl ?_ | refine stepY (y_assign rfl) rfl ?_ | refine stepY (y_len_si rfl) rfl ?_ | refine stepY (y_convn rfl (by simp only [InK, loK, hiK]; omega)) rfl ?_ | refine stepY (y_index_vi rfl rfl rfl (by omega) (by omega)) rfl ?_ | refine stepY (y_binn rfl rfl rfl (by simp only [InK, loK, hiK]; omega)) rfl ?_ | refine stepY (y_cmpF rfl rfl rfl (by omega)) rfl ?_ | refine stepE (e_store_vi rfl rfl rfl (by omega) (by omega)) ?_)
      rw [show ((i : Int) + b.length).toNat = i + b.length by omega]
      refine ⟨(i + 1, q.set (i + b.length) (c : Int)), ⟨by omega, hl⟩, by dsimp only; omega, ?_, ?_⟩ <;> (repeat (first | exact sub_nil | exact subH_nil | refine sub_cons rfl ?_ | refine subH_cons rfl ?_))
  · obtain rfl : i = a.length := by omega
    rw [Nat.mod_eq_of_lt (val_lt ha)] at hv
    repeat (first | refine seq_ ?_ | refine region_ ?_ | refine nil_ ?_ | refine exit_ ?_ | refine cond_f rfl ?_ | refine stepY (y_move rfl) rfl ?_ | refine stepY (y_len_si rfl) rfl ?_ | refine stepY (y_cmpF rfl rfl rfl (by omega)) rfl ?_)
    refine seal_L (i := 67) (h := 15) rfl rfl rfl rfl ?_
    rw [← hv]
    refine call_ Try.func91 rfl rfl (RTrim_c o hw (by omega)) rfl (by repeat (first | exact .tag _ _ | apply Les.cons | exact .nil)) rfl ?_
    repeat (first | refine nil_ ?_ | refine ret_ ?_ | refine stepY (y_assign rfl) rfl ?_)
    ((apply fin_r); (repeat (first | exact .nil | exact .tmp rfl | apply ResL.cons)); (repeat (exact .refl _)))
end Go.Av
