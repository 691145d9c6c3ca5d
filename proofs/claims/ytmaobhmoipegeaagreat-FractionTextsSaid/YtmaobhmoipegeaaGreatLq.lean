/- Contracts behind a law: no conditions beyond those in each statement. -/
import Derived.Test.YtmaobhmoipegeaaGreatJ5
set_option maxHeartbeats 8000000
set_option exponentiation.threshold 100000
set_option maxRecDepth 100000
set_option linter.unusedVariables false
set_option linter.unusedSimpArgs false
namespace Go.Av
open Go Go.Proofs
theorem RParse_c (s : ByteArray) : Con Tryz.prog 56 [.v (.string s)] (prV (prT (negS s) (tS s))) := by
  refine con_of Tryz.func56 rfl rfl rfl rfl rfl ?_
  have hb := bt_bd s 0
  by_cases hs : 0 < s.size
  · by_cases h45 : bt s 0 = 45
    · have hn : negS s = true := by simp [negS, hs, h45]
      have ht : tS s = s.extract (1 : Int).toNat s.size := by simp [tS, hn]
      rw [hn, ht]
      have hb0 := bt_bd (s.extract (1 : Int).toNat s.size) 0
      by_cases hlong : 4096 < (s.extract (1 : Int).toNat s.size).size
      · have hprt : prT true (s.extract (1 : Int).toNat s.size) = none := by
          unfold prT
          rw [if_pos hlong]
        rw [hprt]
        repeat (first | refine seq_ ?_ | refine region_ ?_ | refine nil_ ?_ | refine ret_ ?_ | refine cond_t rfl ?_ | refine guard_t rfl rfl rfl ?_ | refine stepY (y_move rfl) rfl ?_ | refine stepY (y_assign rfl) rfl ?_ | refine stepY (y_len_str rfl) rfl ?_ | refine stepY (y_pick_t rfl rfl) rfl ?_ | refine stepY (y_build rfl rfl rfl) rfl ?_ | refine stepY (y_index_str rfl rfl (by omega) (by omega)) rfl ?_ | refine stepY (y_slice_str_l rfl rfl (by omega) (by omega)) rfl ?_ | refine stepY (y_cmpT rfl rfl rfl (by omega)) rfl ?_ | refine stepY (y_cmpT rfl rfl rfl (by omega)) rfl ?_ | refine stepE (e_alloc rfl rfl rfl) ?_ | refine stepE (e_store rfl rfl rfl rfl rfl rfl rfl) ?_)
        ((apply fin_r); (repeat (first | exact .nil | exact .tmp rfl | exact .agg rfl rfl rfl | apply ResL.cons)); (repeat (first | exact .refl _ | exact .nil _ _ | apply Le.ag | apply Le.tp | apply Les.cons | exact .nil)))
      by_cases hfm : (s.extract (1 : Int).toNat s.size).size = 0 ∨ (bt (s.extract (1 : Int).toNat s.size) 0 = 48 ∧ (1 < (s.extract (1 : Int).toNat s.size).size ∨ true = true))
      · have hprt : prT true (s.extract (1 : Int).toNat s.size) = some none := by
          unfold prT
          rw [if_neg hlong, if_pos hfm]
        rw [hprt]
        rcases hfm with hz | ⟨h48, h1⟩
        · repeat (first | refine seq_ ?_ | refine region_ ?_ | refine nil_ ?_ | refine skip_ ?_ | refine ret_ ?_ | refine cond_t rfl ?_ | refine cond_f rfl ?_ | refine guard_t rfl rfl rfl ?_ | refine guard_f rfl rfl rfl rfl ?_ | refine guard_u rfl rfl rfl ?_ | refine stepY (y_move rfl) rfl ?_ | refine stepY (y_assign rfl) rfl ?_ | refine stepY (y_len_str rfl) rfl ?_ | refine stepY (y_pick_t rfl rfl) rfl ?_ | refine stepY (y_build rfl rfl rfl) rfl ?_ | refine stepY (y_index_str rfl rfl (by omega) (by omega)) rfl ?_ | refine stepY (y_slice_str_l rfl rfl (by omega) (by omega)) rfl ?_ | refine stepY (y_cmpT rfl rfl rfl (by omega)) rfl ?_ | (first | refine stepY (y_cmpT rfl rfl rfl (by omega)) rfl ?_ | refine stepY (y_cmpF rfl rfl rfl (by omega)) rfl ?_) | refine stepE (e_alloc rfl rfl rfl) ?_ | refine stepE (e_store rfl rfl rfl rfl rfl rfl rfl) ?_)
          ((apply fin_r); (repeat (first | exact .nil | exact .tmp rfl | exact .agg rfl rfl rfl | apply ResL.cons)); (repeat (first | exact .refl _ | exact .nil _ _ | apply Le.ag | apply Le.tp | apply Les.cons | exact .nil)))
        · have hz := bt_pos h48
          by_cases h1s : 1 < (s.extract (1 : Int).toNat s.size).size
          · repeat (first | refine seq_ ?_ | refine region_ ?_ | refine nil_ ?_ | refine skip_ ?_ | refine ret_ ?_ | refine cond_t rfl ?_ | refine cond_f rfl ?_ | refine guard_t rfl rfl rfl ?_ | refine guard_f rfl rfl rfl rfl ?_ | refine stepY (y_move rfl) rfl ?_ | refine stepY (y_assign rfl) rfl ?_ | refine stepY (y_len_str rfl) rfl ?_ | (first | refine stepY (y_pick_t rfl rfl) rfl ?_ | refine stepY (y_pick_f rfl rfl) rfl ?_) | refine stepY (y_build rfl rfl rfl) rfl ?_ | refine stepY (y_index_str rfl rfl (by omega) (by omega)) rfl ?_ | refine stepY (y_slice_str_l rfl rfl (by omega) (by omega)) rfl ?_ | (first | refine stepY (y_cmpT rfl rfl rfl (by omega)) rfl ?_ | refine stepY (y_cmpF rfl rfl rfl (by omega)) rfl ?_) | (first | refine stepY (y_cmpT rfl rfl rfl (by omega)) rfl ?_ | refine stepY (y_cmpF rfl rfl rfl (by omega)) rfl ?_) | refine stepE (e_alloc rfl rfl rfl) ?_ | refine stepE (e_store rfl rfl rfl rfl rfl rfl rfl) ?_)
            ((apply fin_r); (repeat (first | exact .nil | exact .tmp rfl | exact .agg rfl rfl rfl | apply ResL.cons)); (repeat (first | exact .refl _ | exact .nil _ _ | apply Le.ag | apply Le.tp | apply Les.cons | exact .nil)))
          · repeat (first | refine seq_ ?_ | refine region_ ?_ | refine nil_ ?_ | refine skip_ ?_ | refine ret_ ?_ | refine cond_t rfl ?_ | refine cond_f rfl ?_ | refine guard_t rfl rfl rfl ?_ | refine stepY (y_move rfl) rfl ?_ | refine stepY (y_assign rfl) rfl ?_ | refine stepY (y_len_str rfl) rfl ?_ | (first | refine stepY (y_pick_t rfl rfl) rfl ?_ | refine stepY (y_pick_f rfl rfl) rfl ?_) | refine stepY (y_build rfl rfl rfl) rfl ?_ | refine stepY (y_index_str rfl rfl (by omega) (by omega)) rfl ?_ | refine stepY (y_slice_str_l rfl rfl (by omega) (by omega)) rfl ?_ | (first | refine stepY (y_cmpT rfl rfl rfl (by omega)) rfl ?_ | refine stepY (y_cmpF rfl rfl rfl (by omega)) rfl ?_) | (first | refine stepY (y_cmpT rfl rfl rfl (by omega)) rfl ?_ | refine stepY (y_cmpF rfl rfl rfl (by omega)) rfl ?_) | refine stepE (e_alloc rfl rfl rfl) ?_ | refine stepE (e_store rfl rfl rfl rfl rfl rfl rfl) ?_)
            ((apply fin_r); (repeat (first | exact .nil | exact .tmp rfl | exact .agg rfl rfl rfl | apply ResL.cons)); (repeat (first | exact .refl _ | exact .nil _ _ | apply Le.ag | apply Le.tp | apply Les.cons | exact .nil)))
      have hsz : 0 < (s.extract (1 : Int).toNat s.size).size := Nat.pos_of_ne_zero fun h => hfm (.inl h)
      have hfm2 : bt (s.extract (1 : Int).toNat s.size) 0 = 48 → ¬ 1 < (s.extract (1 : Int).toNat s.size).size := fun h1 h2 => hfm (.inr ⟨h1, .inl h2⟩)
      have hprt : prT true (s.extract (1 : Int).toNat s.size) = if okD (s.extract (1 : Int).toNat s.size) (s.extract (1 : Int).toNat s.size).size = true then some (some (true, nm (s.extract (1 : Int).toNat s.size) (s.extract (1 : Int).toNat s.size).size)) else some none := by
        unfold prT
        rw [if_neg hlong, if_neg hfm]
      rw [hprt]
      have h48 : ¬ bt (s.extract (1 : Int).toNat s.size) 0 = 48 := fun h => hfm (.inr ⟨h, .inr rfl⟩)
      repeat (first | refine seq_ ?_ | refine region_ ?_ | refine nil_ ?_ | refine skip_ ?_ | refine block_ ?_ | refine cond_t rfl ?_ | refine cond_f rfl ?_ | refine guard_t rfl rfl rfl ?_ | refine guard_f rfl rfl rfl rfl ?_ | refine guard_u rfl rfl rfl ?_ | refine stepY (y_move rfl) rfl ?_ | refine stepY (y_assign rfl) rfl ?_ | refine stepY (y_len_str rfl) rfl ?_ | (first | refine stepY (y_pick_t rfl rfl) rfl ?_ | refine stepY (y_pick_f rfl rfl) rfl ?_) | refine stepY (y_index_str rfl rfl (by omega) (by omega)) rfl ?_ | refine stepY (y_slice_str_l rfl rfl (by omega) (by omega)) rfl ?_ | (first | refine stepY (y_cmpT rfl rfl rfl (by omega)) rfl ?_ | refine stepY (y_cmpF rfl rfl rfl (by omega)) rfl ?_) | (first | refine stepY (y_cmpT rfl rfl rfl (by omega)) rfl ?_ | refine stepY (y_cmpF rfl rfl rfl (by omega)) rfl ?_) | refine stepE (e_alloc rfl rfl rfl) ?_)
      refine le_C (i := 5) (M 0) rfl (.nil _ _) ?_
      refine loop_ (α := Nat) (fun k => ([(0, .p (.v (.string (s.extract (1 : Int).toNat s.size)))), (2, .ptr 2 0), (4, .p (Bo true)), (5, .p (M (nm (s.extract (1 : Int).toNat s.size) k))), (6, .p (I k))], [(2, .bx [Bo false, .v (.slice none 0 0)])])) (fun k => k ≤ (s.extract (1 : Int).toNat s.size).size ∧ okD (s.extract (1 : Int).toNat s.size) k = true) (fun k => (s.extract (1 : Int).toNat s.size).size - k) 0 ⟨Nat.zero_le _, rfl⟩ ?_ ?_ ?_
      · (repeat (first | exact sub_nil | refine sub_cons rfl ?_))
      · (repeat (first | exact subH_nil | refine subH_cons rfl ?_))
      intro k ⟨hk, hok⟩
      have hbd := bt_bd (s.extract (1 : Int).toNat s.size) k
      have hnl := nm_ln hok (by omega)
      by_cases hlt : k < (s.extract (1 : Int).toNat s.size).size
      · by_cases hdig : 48 ≤ bt (s.extract (1 : Int).toNat s.size) k ∧ bt (s.extract (1 : Int).toNat s.size) k ≤ 57
        · have hx := (longer_c (nm (s.extract (1 : Int).toNat s.size) k) 10 ((bt (s.extract (1 : Int).toNat s.size) k).toNat - 48) (by omega) (by decide) (by omega)).le (.tag _ _)
          have hd : bt (s.extract (1 : Int).toNat s.size) k - 48 = (((bt (s.extract (1 : Int).toNat s.size) k).toNat - 48 : Nat) : Int) := by omega
          repeat (first | refine seq_ ?_ | refine region_ ?_ | refine nil_ ?_ | refine skip_ ?_ | refine block_ ?_ | refine cond_t rfl ?_ | refine cond_f rfl ?_ | refine guard_t rfl rfl rfl ?_ | refine stepY (y_move rfl) rfl ?_ | refine stepY (y_len_str rfl) rfl ?_ | refine stepY (y_convn rfl (by simp only [InK, loK, hiK]; omega)) rfl ?_ | refine stepY (y_pick_f rfl rfl) rfl ?_ | refine stepY (y_index_str rfl rfl (by omega) (by omega)) rfl ?_ | refine stepY (y_binn rfl rfl rfl (by simp only [InK, loK, hiK]; omega)) rfl ?_ | (first | refine stepY (y_cmpT rfl rfl rfl (by omega)) rfl ?_ | refine stepY (y_cmpF rfl rfl rfl (by omega)) rfl ?_) | refine stepY (y_cmpF rfl rfl rfl (by omega)) rfl ?_)
          rw [hd]
          refine call_ Tryz.func99 rfl rfl hx rfl (by repeat (first | exact .refl _ | apply Les.cons | exact .nil)) rfl ?_
          repeat (first | refine region_ ?_ | refine nil_ ?_ | refine stepY (y_move rfl) rfl ?_ | refine stepY (y_assign rfl) rfl ?_ | refine stepY (y_binn rfl rfl rfl (by simp only [InK, loK, hiK]; omega)) rfl ?_)
          refine ⟨k + 1, ⟨by omega, ?_⟩, by omega, ?_, ?_⟩
          · simp only [okD, hok, Bool.true_and, Bool.and_eq_true, decide_eq_true_eq]; exact hdig
          · show ∀ i x, _
            (repeat (first | exact sub_nil | refine sub_cons rfl ?_))
          · (repeat (first | exact subH_nil | refine subH_cons rfl ?_))
        · have hbad : ¬ okD (s.extract (1 : Int).toNat s.size) (s.extract (1 : Int).toNat s.size).size = true := fun h => hdig (okD_at hlt h)
          rw [if_neg hbad]
          by_cases h48 : 48 ≤ bt (s.extract (1 : Int).toNat s.size) k
          · repeat (first | refine seq_ ?_ | refine region_ ?_ | refine nil_ ?_ | refine skip_ ?_ | refine ret_ ?_ | refine block_ ?_ | refine cond_t rfl ?_ | refine guard_t rfl rfl rfl ?_ | refine stepY (y_move rfl) rfl ?_ | refine stepY (y_assign rfl) rfl ?_ | refine stepY (y_len_str rfl) rfl ?_ | refine stepY (y_pick_f rfl rfl) rfl ?_ | refine stepY (y_build rfl rfl rfl) rfl ?_ | refine stepY (y_index_str rfl rfl (by omega) (by omega)) rfl ?_ | (first | refine stepY (y_cmpT rfl rfl rfl (by omega)) rfl ?_ | refine stepY (y_cmpF rfl rfl rfl (by omega)) rfl ?_) | refine stepY (y_cmpT rfl rfl rfl (by omega)) rfl ?_ | refine stepE (e_store rfl rfl rfl rfl rfl rfl rfl) ?_)
            ((apply fin_r); (repeat (first | exact .nil | exact .tmp rfl | exact .agg rfl rfl rfl | apply ResL.cons)); (repeat (first | exact .refl _ | exact .nil _ _ | apply Le.ag | apply Le.tp | apply Les.cons | exact .nil)))
          · repeat (first | refine seq_ ?_ | refine region_ ?_ | refine nil_ ?_ | refine skip_ ?_ | refine ret_ ?_ | refine block_ ?_ | refine cond_t rfl ?_ | refine guard_f rfl rfl rfl rfl ?_ | refine stepY (y_move rfl) rfl ?_ | refine stepY (y_assign rfl) rfl ?_ | refine stepY (y_len_str rfl) rfl ?_ | refine stepY (y_pick_t rfl rfl) rfl ?_ | refine stepY (y_build rfl rfl rfl) rfl ?_ | refine stepY (y_index_str rfl rfl (by omega) (by omega)) rfl ?_ | refine stepY (y_cmpT rfl rfl rfl (by omega)) rfl ?_ | refine stepE (e_store rfl rfl rfl rfl rfl rfl rfl) ?_)
            ((apply fin_r); (repeat (first | exact .nil | exact .tmp rfl | exact .agg rfl rfl rfl | apply ResL.cons)); (repeat (first | exact .refl _ | exact .nil _ _ | apply Le.ag | apply Le.tp | apply Les.cons | exact .nil)))
      · obtain rfl : k = (s.extract (1 : Int).toNat s.size).size := by omega
        rw [if_pos hok]
        have hmd := signed_c true (limbs (nm (s.extract (1 : Int).toNat s.size) (s.extract (1 : Int).toNat s.size).size)) (wf_limbs _) (by rw [limbs_length]; omega)
        rw [val_limbs] at hmd
        repeat (first | refine seq_ ?_ | refine region_ ?_ | refine nil_ ?_ | refine exit_ ?_ | refine cond_f rfl ?_ | refine stepY (y_move rfl) rfl ?_ | refine stepY (y_len_str rfl) rfl ?_ | refine stepY (y_cmpF rfl rfl rfl (by omega)) rfl ?_)
        refine call_ Tryz.func100 rfl rfl hmd rfl (by repeat (first | exact .refl _ | apply Les.cons | exact .nil)) rfl ?_
        repeat (first | refine nil_ ?_ | refine ret_ ?_ | refine stepY (y_assign rfl) rfl ?_ | refine stepE (e_store rfl rfl rfl rfl rfl rfl rfl) ?_)
        ((apply fin_r); (repeat (first | exact .nil | exact .tmp rfl | exact .agg rfl rfl rfl | apply ResL.cons)); (repeat (exact .refl _)))
    · have hn : negS s = false := by simp [negS, h45]
      have ht : tS s = s := by simp [tS, hn]
      rw [hn, ht]
      have hb0 := bt_bd (s) 0
      by_cases hlong : 4096 < (s).size
      · have hprt : prT false (s) = none := by
          unfold prT
          rw [if_pos hlong]
        rw [hprt]
        repeat (first | refine seq_ ?_ | refine region_ ?_ | refine nil_ ?_ | refine skip_ ?_ | refine ret_ ?_ | refine cond_t rfl ?_ | refine cond_f rfl ?_ | refine guard_t rfl rfl rfl ?_ | refine stepY (y_move rfl) rfl ?_ | refine stepY (y_assign rfl) rfl ?_ | refine stepY (y_len_str rfl) rfl ?_ | refine stepY (y_pick_t rfl rfl) rfl ?_ | refine stepY (y_build rfl rfl rfl) rfl ?_ | refine stepY (y_index_str rfl rfl (by omega) (by omega)) rfl ?_ | refine stepY (y_cmpF rfl rfl rfl (by omega)) rfl ?_ | refine stepY (y_cmpT rfl rfl rfl (by omega)) rfl ?_ | refine stepE (e_alloc rfl rfl rfl) ?_ | refine stepE (e_store rfl rfl rfl rfl rfl rfl rfl) ?_)
        ((apply fin_r); (repeat (first | exact .nil | exact .tmp rfl | exact .agg rfl rfl rfl | apply ResL.cons)); (repeat (first | exact .refl _ | exact .nil _ _ | apply Le.ag | apply Le.tp | apply Les.cons | exact .nil)))
      by_cases hfm : (s).size = 0 ∨ (bt (s) 0 = 48 ∧ (1 < (s).size ∨ false = true))
      · have hprt : prT false (s) = some none := by
          unfold prT
          rw [if_neg hlong, if_pos hfm]
        rw [hprt]
        rcases hfm with hz | ⟨h48, h1⟩
        · omega
        · have hz := bt_pos h48
          by_cases h1s : 1 < (s).size
          · repeat (first | refine seq_ ?_ | refine region_ ?_ | refine nil_ ?_ | refine skip_ ?_ | refine ret_ ?_ | refine cond_t rfl ?_ | refine cond_f rfl ?_ | refine guard_t rfl rfl rfl ?_ | refine guard_f rfl rfl rfl rfl ?_ | refine stepY (y_move rfl) rfl ?_ | refine stepY (y_assign rfl) rfl ?_ | refine stepY (y_len_str rfl) rfl ?_ | (first | refine stepY (y_pick_t rfl rfl) rfl ?_ | refine stepY (y_pick_f rfl rfl) rfl ?_) | refine stepY (y_build rfl rfl rfl) rfl ?_ | refine stepY (y_index_str rfl rfl (by omega) (by omega)) rfl ?_ | (first | refine stepY (y_cmpT rfl rfl rfl (by omega)) rfl ?_ | refine stepY (y_cmpF rfl rfl rfl (by omega)) rfl ?_) | (first | refine stepY (y_cmpT rfl rfl rfl (by omega)) rfl ?_ | refine stepY (y_cmpF rfl rfl rfl (by omega)) rfl ?_) | refine stepE (e_alloc rfl rfl rfl) ?_ | refine stepE (e_store rfl rfl rfl rfl rfl rfl rfl) ?_)
            ((apply fin_r); (repeat (first | exact .nil | exact .tmp rfl | exact .agg rfl rfl rfl | apply ResL.cons)); (repeat (first | exact .refl _ | exact .nil _ _ | apply Le.ag | apply Le.tp | apply Les.cons | exact .nil)))
          · exact absurd (h1.resolve_left h1s) (by decide)
      have hsz : 0 < (s).size := Nat.pos_of_ne_zero fun h => hfm (.inl h)
      have hfm2 : bt (s) 0 = 48 → ¬ 1 < (s).size := fun h1 h2 => hfm (.inr ⟨h1, .inl h2⟩)
      have hprt : prT false (s) = if okD (s) (s).size = true then some (some (false, nm (s) (s).size)) else some none := by
        unfold prT
        rw [if_neg hlong, if_neg hfm]
      rw [hprt]
      by_cases h48 : bt s 0 = 48
      · have hfm3 := hfm2 h48
        repeat (first | refine seq_ ?_ | refine region_ ?_ | refine nil_ ?_ | refine skip_ ?_ | refine block_ ?_ | refine cond_f rfl ?_ | refine guard_t rfl rfl rfl ?_ | refine stepY (y_move rfl) rfl ?_ | refine stepY (y_assign rfl) rfl ?_ | refine stepY (y_len_str rfl) rfl ?_ | (first | refine stepY (y_pick_t rfl rfl) rfl ?_ | refine stepY (y_pick_f rfl rfl) rfl ?_) | refine stepY (y_index_str rfl rfl (by omega) (by omega)) rfl ?_ | (first | refine stepY (y_cmpT rfl rfl rfl (by omega)) rfl ?_ | refine stepY (y_cmpF rfl rfl rfl (by omega)) rfl ?_) | (first | refine stepY (y_cmpT rfl rfl rfl (by omega)) rfl ?_ | refine stepY (y_cmpF rfl rfl rfl (by omega)) rfl ?_) | refine stepE (e_alloc rfl rfl rfl) ?_)
        refine le_C (i := 5) (M 0) rfl (.nil _ _) ?_
        refine loop_ (α := Nat) (fun k => ([(0, .p (.v (.string (s)))), (2, .ptr 2 0), (4, .p (Bo false)), (5, .p (M (nm (s) k))), (6, .p (I k))], [(2, .bx [Bo false, .v (.slice none 0 0)])])) (fun k => k ≤ (s).size ∧ okD (s) k = true) (fun k => (s).size - k) 0 ⟨Nat.zero_le _, rfl⟩ ?_ ?_ ?_
        · (repeat (first | exact sub_nil | refine sub_cons rfl ?_))
        · (repeat (first | exact subH_nil | refine subH_cons rfl ?_))
        intro k ⟨hk, hok⟩
        have hbd := bt_bd (s) k
        have hnl := nm_ln hok (by omega)
        by_cases hlt : k < (s).size
        · by_cases hdig : 48 ≤ bt (s) k ∧ bt (s) k ≤ 57
          · have hx := (longer_c (nm (s) k) 10 ((bt (s) k).toNat - 48) (by omega) (by decide) (by omega)).le (.tag _ _)
            have hd : bt (s) k - 48 = (((bt (s) k).toNat - 48 : Nat) : Int) := by omega
            repeat (first | refine seq_ ?_ | refine region_ ?_ | refine nil_ ?_ | refine skip_ ?_ | refine block_ ?_ | refine cond_t rfl ?_ | refine cond_f rfl ?_ | refine guard_t rfl rfl rfl ?_ | refine stepY (y_move rfl) rfl ?_ | refine stepY (y_len_str rfl) rfl ?_ | refine stepY (y_convn rfl (by simp only [InK, loK, hiK]; omega)) rfl ?_ | refine stepY (y_pick_f rfl rfl) rfl ?_ | refine stepY (y_index_str rfl rfl (by omega) (by omega)) rfl ?_ | refine stepY (y_binn rfl rfl rfl (by simp only [InK, loK, hiK]; omega)) rfl ?_ | (first | refine stepY (y_cmpT rfl rfl rfl (by omega)) rfl ?_ | refine stepY (y_cmpF rfl rfl rfl (by omega)) rfl ?_) | refine stepY (y_cmpF rfl rfl rfl (by omega)) rfl ?_)
            rw [hd]
            refine call_ Tryz.func99 rfl rfl hx rfl (by repeat (first | exact .refl _ | apply Les.cons | exact .nil)) rfl ?_
            repeat (first | refine region_ ?_ | refine nil_ ?_ | refine stepY (y_move rfl) rfl ?_ | refine stepY (y_assign rfl) rfl ?_ | refine stepY (y_binn rfl rfl rfl (by simp only [InK, loK, hiK]; omega)) rfl ?_)
            refine ⟨k + 1, ⟨by omega, ?_⟩, by omega, ?_, ?_⟩
            · simp only [okD, hok, Bool.true_and, Bool.and_eq_true, decide_eq_true_eq]; exact hdig
            · show ∀ i x, _
              (repeat (first | exact sub_nil | refine sub_cons rfl ?_))
            · (repeat (first | exact subH_nil | refine subH_cons rfl ?_))
          · have hbad : ¬ okD (s) (s).size = true := fun h => hdig (okD_at hlt h)
            rw [if_neg hbad]
            by_cases h48 : 48 ≤ bt (s) k
            · repeat (first | refine seq_ ?_ | refine region_ ?_ | refine nil_ ?_ | refine skip_ ?_ | refine ret_ ?_ | refine block_ ?_ | refine cond_t rfl ?_ | refine guard_t rfl rfl rfl ?_ | refine stepY (y_move rfl) rfl ?_ | refine stepY (y_assign rfl) rfl ?_ | refine stepY (y_len_str rfl) rfl ?_ | refine stepY (y_pick_f rfl rfl) rfl ?_ | refine stepY (y_build rfl rfl rfl) rfl ?_ | refine stepY (y_index_str rfl rfl (by omega) (by omega)) rfl ?_ | (first | refine stepY (y_cmpT rfl rfl rfl (by omega)) rfl ?_ | refine stepY (y_cmpF rfl rfl rfl (by omega)) rfl ?_) | refine stepY (y_cmpT rfl rfl rfl (by omega)) rfl ?_ | refine stepE (e_store rfl rfl rfl rfl rfl rfl rfl) ?_)
              ((apply fin_r); (repeat (first | exact .nil | exact .tmp rfl | exact .agg rfl rfl rfl | apply ResL.cons)); (repeat (first | exact .refl _ | exact .nil _ _ | apply Le.ag | apply Le.tp | apply Les.cons | exact .nil)))
            · repeat (first | refine seq_ ?_ | refine region_ ?_ | refine nil_ ?_ | refine skip_ ?_ | refine ret_ ?_ | refine block_ ?_ | refine cond_t rfl ?_ | refine guard_f rfl rfl rfl rfl ?_ | refine stepY (y_move rfl) rfl ?_ | refine stepY (y_assign rfl) rfl ?_ | refine stepY (y_len_str rfl) rfl ?_ | refine stepY (y_pick_t rfl rfl) rfl ?_ | refine stepY (y_build rfl rfl rfl) rfl ?_ | refine stepY (y_index_str rfl rfl (by omega) (by omega)) rfl ?_ | refine stepY (y_cmpT rfl rfl rfl (by omega)) rfl ?_ | refine stepE (e_store rfl rfl rfl rfl rfl rfl rfl) ?_)
              ((apply fin_r); (repeat (first | exact .nil | exact .tmp rfl | exact .agg rfl rfl rfl | apply ResL.cons)); (repeat (first | exact .refl _ | exact .nil _ _ | apply Le.ag | apply Le.tp | apply Les.cons | exact .nil)))
        · obtain rfl : k = (s).size := by omega
          rw [if_pos hok]
          have hmd := signed_c false (limbs (nm (s) (s).size)) (wf_limbs _) (by rw [limbs_length]; omega)
          rw [val_limbs] at hmd
          repeat (first | refine seq_ ?_ | refine region_ ?_ | refine nil_ ?_ | refine exit_ ?_ | refine cond_f rfl ?_ | refine stepY (y_move rfl) rfl ?_ | refine stepY (y_len_str rfl) rfl ?_ | refine stepY (y_cmpF rfl rfl rfl (by omega)) rfl ?_)
          refine call_ Tryz.func100 rfl rfl hmd rfl (by repeat (first | exact .refl _ | apply Les.cons | exact .nil)) rfl ?_
          repeat (first | refine nil_ ?_ | refine ret_ ?_ | refine stepY (y_assign rfl) rfl ?_ | refine stepE (e_store rfl rfl rfl rfl rfl rfl rfl) ?_)
          ((apply fin_r); (repeat (first | exact .nil | exact .tmp rfl | exact .agg rfl rfl rfl | apply ResL.cons)); (repeat (exact .refl _)))
      · repeat (first | refine seq_ ?_ | refine region_ ?_ | refine nil_ ?_ | refine skip_ ?_ | refine block_ ?_ | refine cond_f rfl ?_ | refine guard_t rfl rfl rfl ?_ | refine guard_f rfl rfl rfl rfl ?_ | refine guard_u rfl rfl rfl ?_ | refine stepY (y_move rfl) rfl ?_ | refine stepY (y_assign rfl) rfl ?_ | refine stepY (y_len_str rfl) rfl ?_ | (first | refine stepY (y_pick_t rfl rfl) rfl ?_ | refine stepY (y_pick_f rfl rfl) rfl ?_) | refine stepY (y_index_str rfl rfl (by omega) (by omega)) rfl ?_ | refine stepY (y_cmpF rfl rfl rfl (by omega)) rfl ?_ | (first | refine stepY (y_cmpT rfl rfl rfl (by omega)) rfl ?_ | refine stepY (y_cmpF rfl rfl rfl (by omega)) rfl ?_) | refine stepE (e_alloc rfl rfl rfl) ?_)
        refine le_C (i := 5) (M 0) rfl (.nil _ _) ?_
        refine loop_ (α := Nat) (fun k => ([(0, .p (.v (.string (s)))), (2, .ptr 2 0), (4, .p (Bo false)), (5, .p (M (nm (s) k))), (6, .p (I k))], [(2, .bx [Bo false, .v (.slice none 0 0)])])) (fun k => k ≤ (s).size ∧ okD (s) k = true) (fun k => (s).size - k) 0 ⟨Nat.zero_le _, rfl⟩ ?_ ?_ ?_
        · (repeat (first | exact sub_nil | refine sub_cons rfl ?_))
        · (repeat (first | exact subH_nil | refine subH_cons rfl ?_))
        intro k ⟨hk, hok⟩
        have hbd := bt_bd (s) k
        have hnl := nm_ln hok (by omega)
        by_cases hlt : k < (s).size
        · by_cases hdig : 48 ≤ bt (s) k ∧ bt (s) k ≤ 57
          · have hx := (longer_c (nm (s) k) 10 ((bt (s) k).toNat - 48) (by omega) (by decide) (by omega)).le (.tag _ _)
            have hd : bt (s) k - 48 = (((bt (s) k).toNat - 48 : Nat) : Int) := by omega
            repeat (first | refine seq_ ?_ | refine region_ ?_ | refine nil_ ?_ | refine skip_ ?_ | refine block_ ?_ | refine cond_t rfl ?_ | refine cond_f rfl ?_ | refine guard_t rfl rfl rfl ?_ | refine stepY (y_move rfl) rfl ?_ | refine stepY (y_len_str rfl) rfl ?_ | refine stepY (y_convn rfl (by simp only [InK, loK, hiK]; omega)) rfl ?_ | refine stepY (y_pick_f rfl rfl) rfl ?_ | refine stepY (y_index_str rfl rfl (by omega) (by omega)) rfl ?_ | refine stepY (y_binn rfl rfl rfl (by simp only [InK, loK, hiK]; omega)) rfl ?_ | (first | refine stepY (y_cmpT rfl rfl rfl (by omega)) rfl ?_ | refine stepY (y_cmpF rfl rfl rfl (by omega)) rfl ?_) | refine stepY (y_cmpF rfl rfl rfl (by omega)) rfl ?_)
            rw [hd]
            refine call_ Tryz.func99 rfl rfl hx rfl (by repeat (first | exact .refl _ | apply Les.cons | exact .nil)) rfl ?_
            repeat (first | refine region_ ?_ | refine nil_ ?_ | refine stepY (y_move rfl) rfl ?_ | refine stepY (y_assign rfl) rfl ?_ | refine stepY (y_binn rfl rfl rfl (by simp only [InK, loK, hiK]; omega)) rfl ?_)
            refine ⟨k + 1, ⟨by omega, ?_⟩, by omega, ?_, ?_⟩
            · simp only [okD, hok, Bool.true_and, Bool.and_eq_true, decide_eq_true_eq]; exact hdig
            · show ∀ i x, _
              (repeat (first | exact sub_nil | refine sub_cons rfl ?_))
            · (repeat (first | exact subH_nil | refine subH_cons rfl ?_))
          · have hbad : ¬ okD (s) (s).size = true := fun h => hdig (okD_at hlt h)
            rw [if_neg hbad]
            by_cases h48 : 48 ≤ bt (s) k
            · repeat (first | refine seq_ ?_ | refine region_ ?_ | refine nil_ ?_ | refine skip_ ?_ | refine ret_ ?_ | refine block_ ?_ | refine cond_t rfl ?_ | refine guard_t rfl rfl rfl ?_ | refine stepY (y_move rfl) rfl ?_ | refine stepY (y_assign rfl) rfl ?_ | refine stepY (y_len_str rfl) rfl ?_ | refine stepY (y_pick_f rfl rfl) rfl ?_ | refine stepY (y_build rfl rfl rfl) rfl ?_ | refine stepY (y_index_str rfl rfl (by omega) (by omega)) rfl ?_ | (first | refine stepY (y_cmpT rfl rfl rfl (by omega)) rfl ?_ | refine stepY (y_cmpF rfl rfl rfl (by omega)) rfl ?_) | refine stepY (y_cmpT rfl rfl rfl (by omega)) rfl ?_ | refine stepE (e_store rfl rfl rfl rfl rfl rfl rfl) ?_)
              ((apply fin_r); (repeat (first | exact .nil | exact .tmp rfl | exact .agg rfl rfl rfl | apply ResL.cons)); (repeat (first | exact .refl _ | exact .nil _ _ | apply Le.ag | apply Le.tp | apply Les.cons | exact .nil)))
            · repeat (first | refine seq_ ?_ | refine region_ ?_ | refine nil_ ?_ | refine skip_ ?_ | refine ret_ ?_ | refine block_ ?_ | refine cond_t rfl ?_ | refine guard_f rfl rfl rfl rfl ?_ | refine stepY (y_move rfl) rfl ?_ | refine stepY (y_assign rfl) rfl ?_ | refine stepY (y_len_str rfl) rfl ?_ | refine stepY (y_pick_t rfl rfl) rfl ?_ | refine stepY (y_build rfl rfl rfl) rfl ?_ | refine stepY (y_index_str rfl rfl (by omega) (by omega)) rfl ?_ | refine stepY (y_cmpT rfl rfl rfl (by omega)) rfl ?_ | refine stepE (e_store rfl rfl rfl rfl rfl rfl rfl) ?_)
              ((apply fin_r); (repeat (first | exact .nil | exact .tmp rfl | exact .agg rfl rfl rfl | apply ResL.cons)); (repeat (first | exact .refl _ | exact .nil _ _ | apply Le.ag | apply Le.tp | apply Les.cons | exact .nil)))
        · obtain rfl : k = (s).size := by omega
          rw [if_pos hok]
          have hmd := signed_c false (limbs (nm (s) (s).size)) (wf_limbs _) (by rw [limbs_length]; omega)
          rw [val_limbs] at hmd
          repeat (first | refine seq_ ?_ | refine region_ ?_ | refine nil_ ?_ | refine exit_ ?_ | refine cond_f rfl ?_ | refine stepY (y_move rfl) rfl ?_ | refine stepY (y_len_str rfl) rfl ?_ | refine stepY (y_cmpF rfl rfl rfl (by omega)) rfl ?_)
          refine call_ Tryz.func100 rfl rfl hmd rfl (by repeat (first | exact .refl _ | apply Les.cons | exact .nil)) rfl ?_
          repeat (first | refine nil_ ?_ | refine ret_ ?_ | refine stepY (y_assign rfl) rfl ?_ | refine stepE (e_store rfl rfl rfl rfl rfl rfl rfl) ?_)
          ((apply fin_r); (repeat (first | exact .nil | exact .tmp rfl | exact .agg rfl rfl rfl | apply ResL.cons)); (repeat (exact .refl _)))
  · have hn : negS s = false := by simp [negS, hs]
    have ht : tS s = s := by simp [tS, hn]
    have hz : s.size = 0 := by omega
    have hprt : prT false s = some none := by
      unfold prT
      rw [if_neg (by omega), if_pos (.inl hz)]
    rw [hn, ht, hprt]
    repeat (first | refine seq_ ?_ | refine region_ ?_ | refine nil_ ?_ | refine skip_ ?_ | refine ret_ ?_ | refine cond_t rfl ?_ | refine cond_f rfl ?_ | refine guard_f rfl rfl rfl rfl ?_ | refine guard_u rfl rfl rfl ?_ | refine stepY (y_move rfl) rfl ?_ | refine stepY (y_assign rfl) rfl ?_ | refine stepY (y_len_str rfl) rfl ?_ | (first | refine stepY (y_pick_t rfl rfl) rfl ?_ | refine stepY (y_pick_f rfl rfl) rfl ?_) | refine stepY (y_build rfl rfl rfl) rfl ?_ | refine stepY (y_cmpT rfl rfl rfl (by omega)) rfl ?_ | refine stepY (y_cmpF rfl rfl rfl (by omega)) rfl ?_ | refine stepE (e_alloc rfl rfl rfl) ?_ | refine stepE (e_store rfl rfl rfl rfl rfl rfl rfl) ?_)
    ((apply fin_r); (repeat (first | exact .nil | exact .tmp rfl | exact .agg rfl rfl rfl | apply ResL.cons)); (repeat (first | exact .refl _ | exact .nil _ _ | apply Le.ag | apply Le.tp | apply Les.cons | exact .nil)))
end Go.Av
