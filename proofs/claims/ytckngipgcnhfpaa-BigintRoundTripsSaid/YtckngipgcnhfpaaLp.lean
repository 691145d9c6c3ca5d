import Derived.Test.YtckngipgcnhfpaaLo
import Derived.Test.YtckngipgcnhfpaaP8
set_option maxHeartbeats 8000000
set_option exponentiation.threshold 100000
set_option maxRecDepth 100000
set_option linter.unusedVariables false
set_option linter.unusedSimpArgs false
namespace Go.Av
open Go Go.Proofs
def prV : Option (Option (Bool × Nat)) → PV
  | none => .tp [FIV 0, E_ 4]
  | some none => .tp [FIV 0, E_ 9]
  | some (some (g, n)) => .tp [FIV (sgn g n), E_ 0]
abbrev R32 (n : Int) : PV := .v (.int .i32 n)
theorem digit_t (c : Int) (h : 48 ≤ c ∧ c ≤ 57) : Con Try.prog 64 [R32 c] (.tp [U (c - 48), Bo true]) := by
  refine con_of Try.func64 rfl rfl rfl rfl rfl ?_
  repeat (first | refine seq_ ?_ | refine region_ ?_ | refine nil_ ?_ | refine ret_ ?_ | refine guard_t rfl rfl rfl ?_ | refine stepY (y_move rfl) rfl ?_ | refine stepY (y_assign rfl) rfl ?_ | refine stepY (y_convn rfl (by simp only [InK, loK, hiK]; omega)) rfl ?_ | refine stepY (y_pick_t rfl rfl) rfl ?_ | refine stepY (y_binn rfl rfl rfl (by simp only [InK, loK, hiK]; omega)) rfl ?_ | refine stepY (y_cmpT rfl rfl rfl (by omega)) rfl ?_ | refine stepY (y_cmpT rfl rfl rfl (by omega)) rfl ?_)
  ((apply fin_r); (repeat (first | exact .nil | exact .tmp rfl | apply ResL.cons)); (repeat (exact .refl _)))
theorem digit_f (c : Int) (h0 : 0 ≤ c ∧ c ≤ 2097152) (h : ¬ (48 ≤ c ∧ c ≤ 57)) : ∃ d, Con Try.prog 64 [R32 c] (.tp [U d, Bo false]) := by
  by_cases h1 : 48 ≤ c
  · refine ⟨c - 48, con_of Try.func64 rfl rfl rfl rfl rfl ?_⟩
    repeat (first | refine seq_ ?_ | refine region_ ?_ | refine nil_ ?_ | refine ret_ ?_ | refine guard_t rfl rfl rfl ?_ | refine stepY (y_move rfl) rfl ?_ | refine stepY (y_assign rfl) rfl ?_ | refine stepY (y_convn rfl (by simp only [InK, loK, hiK]; omega)) rfl ?_ | refine stepY (y_pick_t rfl rfl) rfl ?_ | refine stepY (y_binn rfl rfl rfl (by simp only [InK, loK, hiK]; omega)) rfl ?_ | refine stepY (y_cmpF rfl rfl rfl (by omega)) rfl ?_ | refine stepY (y_cmpT rfl rfl rfl (by omega)) rfl ?_)
    ((apply fin_r); (repeat (first | exact .nil | exact .tmp rfl | apply ResL.cons)); (repeat (exact .refl _)))
  · refine ⟨IntKind.wrap .u32 (c - 48), con_of Try.func64 rfl rfl rfl rfl rfl ?_⟩
    repeat (first | refine seq_ ?_ | refine region_ ?_ | refine nil_ ?_ | refine ret_ ?_ | refine guard_f rfl rfl rfl rfl ?_ | refine stepY (y_move rfl) rfl ?_ | refine stepY (y_assign rfl) rfl ?_ | refine stepY (y_conv rfl) rfl ?_ | refine stepY (y_pick_f rfl rfl) rfl ?_ | refine stepY (y_binn rfl rfl rfl (by simp only [InK, loK, hiK]; omega)) rfl ?_ | refine stepY (y_cmpF rfl rfl rfl (by omega)) rfl ?_)
    ((apply fin_r); (repeat (first | exact .nil | exact .tmp rfl | apply ResL.cons)); (repeat (exact .refl _)))
theorem Parse_c (s : ByteArray) : Con Try.prog 23 [.v (.string s)] (prV (prT (negS s) (tS s))) := by
  refine con_of Try.func23 rfl rfl rfl rfl rfl ?_
  have hb := bt_bd s 0
  by_cases hs : 0 < s.size
  · by_cases h45 : bt s 0 = 45
    · have hn : negS s = true := by simp [negS, hs, h45]
      have ht : tS s = s.extract (1 : Int).toNat s.size := by simp [tS, hn]
      rw [hn, ht]
      have hb0 := bt_bd (s.extract (1 : Int).toNat s.size) 0
      by_cases hlong : 4096 < (s.extract (1 : Int).toNat s.size).size
      · have hprt : prT true (s.extract (1 : Int).toNat s.size) = none := by
          unfold prT
          rw [if_pos hlong]
        rw [hprt]
        repeat (first | refine seq_ ?_ | refine region_ ?_ | refine nil_ ?_ | refine ret_ ?_ | refine cond_t rfl ?_ | refine guard_t rfl rfl rfl ?_ | refine stepY (y_move rfl) rfl ?_ | refine stepY (y_assign rfl) rfl ?_ | refine stepY (y_len_str rfl) rfl ?_ | refine stepY (y_pick_t rfl rfl) rfl ?_ | refine stepY (y_build rfl rfl rfl) rfl ?_ | refine stepY (y_index_str rfl rfl (by omega) (by omega)) rfl ?_ | refine stepY (y_slice_str_l rfl rfl (by omega) (by omega)) rfl ?_ | refine stepY (y_cmpT rfl rfl rfl (by omega)) rfl ?_ | refine stepY (y_cmpT rfl rfl rfl (by omega)) rfl ?_ | refine stepE (e_alloc rfl rfl rfl) ?_ | refine stepE (e_store rfl rfl rfl rfl rfl rfl rfl) ?_)
        ((apply fin_r); (repeat (first | exact .nil | exact .tmp rfl | exact .agg rfl rfl rfl | apply ResL.cons)); (repeat (first | exact .refl _ | exact .nil _ _ | apply Le.ag | apply Le.tp | apply Les.cons | exact .nil)))
      by_cases hfm : (s.extract (1 : Int).toNat s.size).size = 0 ∨ (bt (s.extract (1 : Int).toNat s.size) 0 = 48 ∧ (1 < (s.extract (1 : Int).toNat s.size).size ∨ true = true))
      · have hprt : prT true (s.extract (1 : Int).toNat s.size) = some none := by
          unfold prT
          rw [if_neg hlong, if_pos hfm]
        rw [hprt]
        rcases hfm with hz | ⟨h48, h1⟩
        · have he : s.extract (1 : Int).toNat s.size = ⟨#[]⟩ := by
            apply ByteArray.ext
            apply Array.eq_empty_of_size_eq_zero
            exact hz
          have hde : decide (s.extract (1 : Int).toNat s.size = (⟨#[]⟩ : ByteArray)) = true := decide_eq_true he
          repeat (first | refine seq_ ?_ | refine region_ ?_ | refine nil_ ?_ | refine skip_ ?_ | refine cond_t rfl ?_ | refine cond_f rfl ?_ | refine guard_t rfl rfl rfl ?_ | refine stepY (y_move rfl) rfl ?_ | refine stepY (y_assign rfl) rfl ?_ | refine stepY (y_len_str rfl) rfl ?_ | refine stepY (y_pick_t rfl rfl) rfl ?_ | refine stepY (y_index_str rfl rfl (by omega) (by omega)) rfl ?_ | refine stepY (y_slice_str_l rfl rfl (by omega) (by omega)) rfl ?_ | (first | refine stepY (y_cmpT rfl rfl rfl (by omega)) rfl ?_ | refine stepY (y_eqs rfl rfl) rfl ?_) | (first | refine stepY (y_cmpT rfl rfl rfl (by omega)) rfl ?_ | refine stepY (y_cmpF rfl rfl rfl (by omega)) rfl ?_) | refine stepE (e_alloc rfl rfl rfl) ?_)
          rw [hde]
          repeat (first | refine seq_ ?_ | refine region_ ?_ | refine nil_ ?_ | refine ret_ ?_ | refine cond_t rfl ?_ | refine guard_f rfl rfl rfl rfl ?_ | refine guard_u rfl rfl rfl ?_ | refine stepY (y_assign rfl) rfl ?_ | refine stepY (y_pick_t rfl rfl) rfl ?_ | refine stepY (y_build rfl rfl rfl) rfl ?_ | refine stepE (e_store rfl rfl rfl rfl rfl rfl rfl) ?_)
          ((apply fin_r); (repeat (first | exact .nil | exact .tmp rfl | exact .agg rfl rfl rfl | apply ResL.cons)); (repeat (first | exact .refl _ | exact .nil _ _ | apply Le.ag | apply Le.tp | apply Les.cons | exact .nil)))
        · have hz := bt_pos h48
          have he : decide (s.extract (1 : Int).toNat s.size = (⟨#[]⟩ : ByteArray)) = false := decide_eq_false (fun e => by rw [e] at hz; exact absurd hz (by decide))
          by_cases h1s : 1 < (s.extract (1 : Int).toNat s.size).size
          · repeat (first | refine seq_ ?_ | refine region_ ?_ | refine nil_ ?_ | refine skip_ ?_ | refine cond_t rfl ?_ | refine cond_f rfl ?_ | refine guard_t rfl rfl rfl ?_ | refine stepY (y_move rfl) rfl ?_ | refine stepY (y_assign rfl) rfl ?_ | refine stepY (y_len_str rfl) rfl ?_ | refine stepY (y_pick_t rfl rfl) rfl ?_ | refine stepY (y_index_str rfl rfl (by omega) (by omega)) rfl ?_ | refine stepY (y_slice_str_l rfl rfl (by omega) (by omega)) rfl ?_ | (first | refine stepY (y_cmpT rfl rfl rfl (by omega)) rfl ?_ | refine stepY (y_eqs rfl rfl) rfl ?_) | (first | refine stepY (y_cmpT rfl rfl rfl (by omega)) rfl ?_ | refine stepY (y_cmpF rfl rfl rfl (by omega)) rfl ?_) | refine stepE (e_alloc rfl rfl rfl) ?_)
            rw [he]
            repeat (first | refine seq_ ?_ | refine region_ ?_ | refine nil_ ?_ | refine ret_ ?_ | refine cond_t rfl ?_ | refine guard_t rfl rfl rfl ?_ | refine guard_f rfl rfl rfl rfl ?_ | refine stepY (y_move rfl) rfl ?_ | refine stepY (y_assign rfl) rfl ?_ | refine stepY (y_len_str rfl) rfl ?_ | (first | refine stepY (y_pick_t rfl rfl) rfl ?_ | refine stepY (y_pick_f rfl rfl) rfl ?_) | refine stepY (y_build rfl rfl rfl) rfl ?_ | refine stepY (y_index_str rfl rfl (by omega) (by omega)) rfl ?_ | refine stepY (y_cmpT rfl rfl rfl (by omega)) rfl ?_ | refine stepY (y_cmpT rfl rfl rfl (by omega)) rfl ?_ | refine stepE (e_store rfl rfl rfl rfl rfl rfl rfl) ?_)
            ((apply fin_r); (repeat (first | exact .nil | exact .tmp rfl | exact .agg rfl rfl rfl | apply ResL.cons)); (repeat (first | exact .refl _ | exact .nil _ _ | apply Le.ag | apply Le.tp | apply Les.cons | exact .nil)))
          · repeat (first | refine seq_ ?_ | refine region_ ?_ | refine nil_ ?_ | refine skip_ ?_ | refine cond_t rfl ?_ | refine cond_f rfl ?_ | refine guard_t rfl rfl rfl ?_ | refine stepY (y_move rfl) rfl ?_ | refine stepY (y_assign rfl) rfl ?_ | refine stepY (y_len_str rfl) rfl ?_ | refine stepY (y_pick_t rfl rfl) rfl ?_ | refine stepY (y_index_str rfl rfl (by omega) (by omega)) rfl ?_ | refine stepY (y_slice_str_l rfl rfl (by omega) (by omega)) rfl ?_ | (first | refine stepY (y_cmpT rfl rfl rfl (by omega)) rfl ?_ | refine stepY (y_eqs rfl rfl) rfl ?_) | (first | refine stepY (y_cmpT rfl rfl rfl (by omega)) rfl ?_ | refine stepY (y_cmpF rfl rfl rfl (by omega)) rfl ?_) | refine stepE (e_alloc rfl rfl rfl) ?_)
            rw [he]
            repeat (first | refine seq_ ?_ | refine region_ ?_ | refine nil_ ?_ | refine ret_ ?_ | refine cond_t rfl ?_ | refine guard_t rfl rfl rfl ?_ | refine stepY (y_move rfl) rfl ?_ | refine stepY (y_assign rfl) rfl ?_ | refine stepY (y_len_str rfl) rfl ?_ | (first | refine stepY (y_pick_t rfl rfl) rfl ?_ | refine stepY (y_pick_f rfl rfl) rfl ?_) | refine stepY (y_build rfl rfl rfl) rfl ?_ | refine stepY (y_index_str rfl rfl (by omega) (by omega)) rfl ?_ | refine stepY (y_cmpT rfl rfl rfl (by omega)) rfl ?_ | refine stepY (y_cmpF rfl rfl rfl (by omega)) rfl ?_ | refine stepE (e_store rfl rfl rfl rfl rfl rfl rfl) ?_)
            ((apply fin_r); (repeat (first | exact .nil | exact .tmp rfl | exact .agg rfl rfl rfl | apply ResL.cons)); (repeat (first | exact .refl _ | exact .nil _ _ | apply Le.ag | apply Le.tp | apply Les.cons | exact .nil)))
      have hsz : 0 < (s.extract (1 : Int).toNat s.size).size := Nat.pos_of_ne_zero fun h => hfm (.inl h)
      have hfm2 : bt (s.extract (1 : Int).toNat s.size) 0 = 48 → ¬ 1 < (s.extract (1 : Int).toNat s.size).size := fun h1 h2 => hfm (.inr ⟨h1, .inl h2⟩)
      have hprt : prT true (s.extract (1 : Int).toNat s.size) = if okD (s.extract (1 : Int).toNat s.size) (s.extract (1 : Int).toNat s.size).size = true then some (some (true, nm (s.extract (1 : Int).toNat s.size) (s.extract (1 : Int).toNat s.size).size)) else some none := by
        unfold prT
        rw [if_neg hlong, if_neg hfm]
      rw [hprt]
      have he : decide (s.extract (1 : Int).toNat s.size = (⟨#[]⟩ : ByteArray)) = false := decide_eq_false (fun e => by rw [e] at hsz; exact absurd hsz (by decide))
      have h48 : ¬ bt (s.extract (1 : Int).toNat s.size) 0 = 48 := fun h => hfm (.inr ⟨h, .inr rfl⟩)
      repeat (first | refine seq_ ?_ | refine region_ ?_ | refine nil_ ?_ | refine skip_ ?_ | refine cond_t rfl ?_ | refine cond_f rfl ?_ | refine guard_t rfl rfl rfl ?_ | refine stepY (y_move rfl) rfl ?_ | refine stepY (y_assign rfl) rfl ?_ | refine stepY (y_len_str rfl) rfl ?_ | refine stepY (y_pick_t rfl rfl) rfl ?_ | refine stepY (y_index_str rfl rfl (by omega) (by omega)) rfl ?_ | refine stepY (y_slice_str_l rfl rfl (by omega) (by omega)) rfl ?_ | (first | refine stepY (y_cmpT rfl rfl rfl (by omega)) rfl ?_ | refine stepY (y_eqs rfl rfl) rfl ?_) | (first | refine stepY (y_cmpT rfl rfl rfl (by omega)) rfl ?_ | refine stepY (y_cmpF rfl rfl rfl (by omega)) rfl ?_) | refine stepE (e_alloc rfl rfl rfl) ?_)
      rw [he]
      repeat (first | refine seq_ ?_ | refine region_ ?_ | refine nil_ ?_ | refine skip_ ?_ | refine block_ ?_ | refine cond_f rfl ?_ | refine guard_t rfl rfl rfl ?_ | refine guard_f rfl rfl rfl rfl ?_ | refine guard_u rfl rfl rfl ?_ | refine stepY (y_move rfl) rfl ?_ | refine stepY (y_assign rfl) rfl ?_ | refine stepY (y_pick_f rfl rfl) rfl ?_ | refine stepY (y_index_str rfl rfl (by omega) (by omega)) rfl ?_ | refine stepY (y_cmpF rfl rfl rfl (by omega)) rfl ?_ | refine stepE (e_range_str rfl rfl rfl rfl) ?_)
      refine le_C (i := 6) (M 0) rfl (.nil _ _) ?_
      refine loop_ (α := Nat) (fun k => ([(2, .ptr 2 0), (5, .p (Bo true)), (6, .p (M (nm (s.extract (1 : Int).toNat s.size) k))), (44, .ptr 44 0)], [(2, .bx [Bo false, .v (.slice none 0 0)]), (44, .it (s.extract (1 : Int).toNat s.size) k)])) (fun k => k ≤ (s.extract (1 : Int).toNat s.size).size ∧ okD (s.extract (1 : Int).toNat s.size) k = true) (fun k => (s.extract (1 : Int).toNat s.size).size - k) 0 ⟨Nat.zero_le _, rfl⟩ ?_ ?_ ?_
      · (repeat (first | exact sub_nil | refine sub_cons rfl ?_))
      · (repeat (first | exact subH_nil | refine subH_cons rfl ?_))
      intro k ⟨hk, hok⟩
      have hbd := bt_bd (s.extract (1 : Int).toNat s.size) k
      have hnl := nm_ln hok (by omega)
      by_cases hlt : k < (s.extract (1 : Int).toNat s.size).size
      · by_cases hdig : 48 ≤ bt (s.extract (1 : Int).toNat s.size) k ∧ bt (s.extract (1 : Int).toNat s.size) k ≤ 57
        · obtain ⟨hd1, hd2⟩ := dec_lo hlt (by omega)
          have hx := extended_c (nm (s.extract (1 : Int).toNat s.size) k) 10 ((bt (s.extract (1 : Int).toNat s.size) k).toNat - 48) (by omega) (by decide) (by omega)
          have hd : bt (s.extract (1 : Int).toNat s.size) k - 48 = (((bt (s.extract (1 : Int).toNat s.size) k).toNat - 48 : Nat) : Int) := by omega
          repeat (first | refine seq_ ?_ | refine region_ ?_ | refine nil_ ?_ | refine skip_ ?_ | refine block_ ?_ | refine cond_t rfl ?_ | refine stepY (y_move rfl) rfl ?_ | refine stepY (y_assign rfl) rfl ?_ | refine stepY (y_extract rfl rfl) rfl ?_ | refine stepE (e_next_in rfl rfl (by omega) rfl) ?_)
          rw [hd1, hd2]
          refine call_ Try.func64 rfl rfl (digit_t _ hdig) rfl (by repeat (first | exact .refl _ | apply Les.cons | exact .nil)) rfl ?_
          rw [hd]
          repeat (first | refine seq_ ?_ | refine region_ ?_ | refine nil_ ?_ | refine skip_ ?_ | refine cond_f rfl ?_ | refine stepY (y_move rfl) rfl ?_ | refine stepY (y_assign rfl) rfl ?_ | refine stepY (y_extract rfl rfl) rfl ?_ | refine stepY (y_not rfl) rfl ?_)
          refine call_ Try.func65 rfl rfl hx rfl (by repeat (first | exact .refl _ | apply Les.cons | exact .nil)) rfl ?_
          repeat (first | refine nil_ ?_ | refine stepY (y_assign rfl) rfl ?_)
          refine ⟨k + 1, ⟨by omega, ?_⟩, by omega, ?_, ?_⟩
          · simp only [okD, hok, Bool.true_and, Bool.and_eq_true, decide_eq_true_eq]; exact hdig
          · show ∀ i x, _
            (repeat (first | exact sub_nil | refine sub_cons rfl ?_))
          · (repeat (first | exact subH_nil | refine subH_cons rfl ?_))
        · have hbad : ¬ okD (s.extract (1 : Int).toNat s.size) (s.extract (1 : Int).toNat s.size).size = true := fun h => hdig (okD_at hlt h)
          rw [if_neg hbad]
          have hc : 0 ≤ ((Utf8.decode (s.extract (1 : Int).toNat s.size) k).1 : Int) ∧ ((Utf8.decode (s.extract (1 : Int).toNat s.size) k).1 : Int) ≤ 2097152 ∧ ¬ (48 ≤ ((Utf8.decode (s.extract (1 : Int).toNat s.size) k).1 : Int) ∧ ((Utf8.decode (s.extract (1 : Int).toNat s.size) k).1 : Int) ≤ 57) := by
            by_cases h128 : bt (s.extract (1 : Int).toNat s.size) k < 128
            · rw [(dec_lo hlt h128).1]; omega
            · have := dec_hi hlt (by omega); omega
          obtain ⟨dd, hdf⟩ := digit_f _ ⟨hc.1, hc.2.1⟩ hc.2.2
          repeat (first | refine seq_ ?_ | refine region_ ?_ | refine nil_ ?_ | refine skip_ ?_ | refine block_ ?_ | refine cond_t rfl ?_ | refine stepY (y_move rfl) rfl ?_ | refine stepY (y_assign rfl) rfl ?_ | refine stepY (y_extract rfl rfl) rfl ?_ | refine stepE (e_next_in rfl rfl (by omega) rfl) ?_)
          refine call_ Try.func64 rfl rfl hdf rfl (by repeat (first | exact .refl _ | apply Les.cons | exact .nil)) rfl ?_
          repeat (first | refine seq_ ?_ | refine region_ ?_ | refine nil_ ?_ | refine ret_ ?_ | refine cond_t rfl ?_ | refine stepY (y_move rfl) rfl ?_ | refine stepY (y_assign rfl) rfl ?_ | refine stepY (y_extract rfl rfl) rfl ?_ | refine stepY (y_not rfl) rfl ?_ | refine stepY (y_build rfl rfl rfl) rfl ?_ | refine stepE (e_store rfl rfl rfl rfl rfl rfl rfl) ?_)
          ((apply fin_r); (repeat (first | exact .nil | exact .tmp rfl | exact .agg rfl rfl rfl | apply ResL.cons)); (repeat (first | exact .refl _ | exact .nil _ _ | apply Le.ag | apply Le.tp | apply Les.cons | exact .nil)))
      · obtain rfl : k = (s.extract (1 : Int).toNat s.size).size := by omega
        rw [if_pos hok]
        have hmd := made_c true (limbs (nm (s.extract (1 : Int).toNat s.size) (s.extract (1 : Int).toNat s.size).size)) (wf_limbs _) (by rw [limbs_length]; omega)
        rw [val_limbs] at hmd
        repeat (first | refine seq_ ?_ | refine region_ ?_ | refine nil_ ?_ | refine exit_ ?_ | refine cond_f rfl ?_ | refine stepY (y_move rfl) rfl ?_ | refine stepY (y_extract rfl rfl) rfl ?_ | refine stepY (e_next_end (d := 0) (N := 1) rfl rfl (by omega) rfl) rfl ?_)
        refine call_ Try.func54 rfl rfl hmd rfl (by repeat (first | exact .refl _ | apply Les.cons | exact .nil)) rfl ?_
        repeat (first | refine nil_ ?_ | refine ret_ ?_ | refine stepY (y_assign rfl) rfl ?_ | refine stepE (e_store rfl rfl rfl rfl rfl rfl rfl) ?_)
        ((apply fin_r); (repeat (first | exact .nil | exact .tmp rfl | exact .agg rfl rfl rfl | apply ResL.cons)); (repeat (exact .refl _)))
    · have hn : negS s = false := by simp [negS, h45]
      have ht : tS s = s := by simp [tS, hn]
      rw [hn, ht]
      have hb0 := bt_bd (s) 0
      by_cases hlong : 4096 < (s).size
      · have hprt : prT false (s) = none := by
          unfold prT
          rw [if_pos hlong]
        rw [hprt]
        repeat (first | refine seq_ ?_ | refine region_ ?_ | refine nil_ ?_ | refine skip_ ?_ | refine ret_ ?_ | refine cond_t rfl ?_ | refine cond_f rfl ?_ | refine guard_t rfl rfl rfl ?_ | refine stepY (y_move rfl) rfl ?_ | refine stepY (y_assign rfl) rfl ?_ | refine stepY (y_len_str rfl) rfl ?_ | refine stepY (y_pick_t rfl rfl) rfl ?_ | refine stepY (y_build rfl rfl rfl) rfl ?_ | refine stepY (y_index_str rfl rfl (by omega) (by omega)) rfl ?_ | refine stepY (y_cmpF rfl rfl rfl (by omega)) rfl ?_ | refine stepY (y_cmpT rfl rfl rfl (by omega)) rfl ?_ | refine stepE (e_alloc rfl rfl rfl) ?_ | refine stepE (e_store rfl rfl rfl rfl rfl rfl rfl) ?_)
        ((apply fin_r); (repeat (first | exact .nil | exact .tmp rfl | exact .agg rfl rfl rfl | apply ResL.cons)); (repeat (first | exact .refl _ | exact .nil _ _ | apply Le.ag | apply Le.tp | apply Les.cons | exact .nil)))
      by_cases hfm : (s).size = 0 ∨ (bt (s) 0 = 48 ∧ (1 < (s).size ∨ false = true))
      · have hprt : prT false (s) = some none := by
          unfold prT
          rw [if_neg hlong, if_pos hfm]
        rw [hprt]
        rcases hfm with hz | ⟨h48, h1⟩
        · omega
        · have hz := bt_pos h48
          have he : decide (s = (⟨#[]⟩ : ByteArray)) = false := decide_eq_false (fun e => by rw [e] at hz; exact absurd hz (by decide))
          by_cases h1s : 1 < (s).size
          · repeat (first | refine seq_ ?_ | refine region_ ?_ | refine nil_ ?_ | refine skip_ ?_ | refine cond_f rfl ?_ | refine guard_t rfl rfl rfl ?_ | refine stepY (y_move rfl) rfl ?_ | refine stepY (y_assign rfl) rfl ?_ | refine stepY (y_len_str rfl) rfl ?_ | refine stepY (y_pick_t rfl rfl) rfl ?_ | refine stepY (y_index_str rfl rfl (by omega) (by omega)) rfl ?_ | (first | refine stepY (y_cmpF rfl rfl rfl (by omega)) rfl ?_ | refine stepY (y_eqs rfl rfl) rfl ?_) | (first | refine stepY (y_cmpT rfl rfl rfl (by omega)) rfl ?_ | refine stepY (y_cmpF rfl rfl rfl (by omega)) rfl ?_) | refine stepE (e_alloc rfl rfl rfl) ?_)
            rw [he]
            repeat (first | refine seq_ ?_ | refine region_ ?_ | refine nil_ ?_ | refine ret_ ?_ | refine cond_t rfl ?_ | refine guard_t rfl rfl rfl ?_ | refine guard_f rfl rfl rfl rfl ?_ | refine stepY (y_move rfl) rfl ?_ | refine stepY (y_assign rfl) rfl ?_ | refine stepY (y_len_str rfl) rfl ?_ | (first | refine stepY (y_pick_t rfl rfl) rfl ?_ | refine stepY (y_pick_f rfl rfl) rfl ?_) | refine stepY (y_build rfl rfl rfl) rfl ?_ | refine stepY (y_index_str rfl rfl (by omega) (by omega)) rfl ?_ | refine stepY (y_cmpT rfl rfl rfl (by omega)) rfl ?_ | refine stepY (y_cmpT rfl rfl rfl (by omega)) rfl ?_ | refine stepE (e_store rfl rfl rfl rfl rfl rfl rfl) ?_)
            ((apply fin_r); (repeat (first | exact .nil | exact .tmp rfl | exact .agg rfl rfl rfl | apply ResL.cons)); (repeat (first | exact .refl _ | exact .nil _ _ | apply Le.ag | apply Le.tp | apply Les.cons | exact .nil)))
          · exact absurd (h1.resolve_left h1s) (by decide)
      have hsz : 0 < (s).size := Nat.pos_of_ne_zero fun h => hfm (.inl h)
      have hfm2 : bt (s) 0 = 48 → ¬ 1 < (s).size := fun h1 h2 => hfm (.inr ⟨h1, .inl h2⟩)
      have hprt : prT false (s) = if okD (s) (s).size = true then some (some (false, nm (s) (s).size)) else some none := by
        unfold prT
        rw [if_neg hlong, if_neg hfm]
      rw [hprt]
      have he : decide (s = (⟨#[]⟩ : ByteArray)) = false := decide_eq_false (fun e => by rw [e] at hsz; exact absurd hsz (by decide))
      by_cases h48 : bt s 0 = 48
      · have hfm3 := hfm2 h48
        repeat (first | refine seq_ ?_ | refine region_ ?_ | refine nil_ ?_ | refine skip_ ?_ | refine cond_f rfl ?_ | refine guard_t rfl rfl rfl ?_ | refine stepY (y_move rfl) rfl ?_ | refine stepY (y_assign rfl) rfl ?_ | refine stepY (y_len_str rfl) rfl ?_ | refine stepY (y_pick_t rfl rfl) rfl ?_ | refine stepY (y_index_str rfl rfl (by omega) (by omega)) rfl ?_ | (first | refine stepY (y_cmpF rfl rfl rfl (by omega)) rfl ?_ | refine stepY (y_eqs rfl rfl) rfl ?_) | (first | refine stepY (y_cmpT rfl rfl rfl (by omega)) rfl ?_ | refine stepY (y_cmpF rfl rfl rfl (by omega)) rfl ?_) | refine stepE (e_alloc rfl rfl rfl) ?_)
        rw [he]
        repeat (first | refine seq_ ?_ | refine region_ ?_ | refine nil_ ?_ | refine skip_ ?_ | refine block_ ?_ | refine cond_f rfl ?_ | refine guard_t rfl rfl rfl ?_ | refine stepY (y_move rfl) rfl ?_ | refine stepY (y_assign rfl) rfl ?_ | refine stepY (y_len_str rfl) rfl ?_ | (first | refine stepY (y_pick_t rfl rfl) rfl ?_ | refine stepY (y_pick_f rfl rfl) rfl ?_) | refine stepY (y_index_str rfl rfl (by omega) (by omega)) rfl ?_ | refine stepY (y_cmpT rfl rfl rfl (by omega)) rfl ?_ | refine stepY (y_cmpF rfl rfl rfl (by omega)) rfl ?_ | refine stepE (e_range_str rfl rfl rfl rfl) ?_)
        refine le_C (i := 6) (M 0) rfl (.nil _ _) ?_
        refine loop_ (α := Nat) (fun k => ([(2, .ptr 2 0), (5, .p (Bo false)), (6, .p (M (nm (s) k))), (44, .ptr 44 0)], [(2, .bx [Bo false, .v (.slice none 0 0)]), (44, .it (s) k)])) (fun k => k ≤ (s).size ∧ okD (s) k = true) (fun k => (s).size - k) 0 ⟨Nat.zero_le _, rfl⟩ ?_ ?_ ?_
        · (repeat (first | exact sub_nil | refine sub_cons rfl ?_))
        · (repeat (first | exact subH_nil | refine subH_cons rfl ?_))
        intro k ⟨hk, hok⟩
        have hbd := bt_bd (s) k
        have hnl := nm_ln hok (by omega)
        by_cases hlt : k < (s).size
        · by_cases hdig : 48 ≤ bt (s) k ∧ bt (s) k ≤ 57
          · obtain ⟨hd1, hd2⟩ := dec_lo hlt (by omega)
            have hx := extended_c (nm (s) k) 10 ((bt (s) k).toNat - 48) (by omega) (by decide) (by omega)
            have hd : bt (s) k - 48 = (((bt (s) k).toNat - 48 : Nat) : Int) := by omega
            repeat (first | refine seq_ ?_ | refine region_ ?_ | refine nil_ ?_ | refine skip_ ?_ | refine block_ ?_ | refine cond_t rfl ?_ | refine stepY (y_move rfl) rfl ?_ | refine stepY (y_assign rfl) rfl ?_ | refine stepY (y_extract rfl rfl) rfl ?_ | refine stepE (e_next_in rfl rfl (by omega) rfl) ?_)
            rw [hd1, hd2]
            refine call_ Try.func64 rfl rfl (digit_t _ hdig) rfl (by repeat (first | exact .refl _ | apply Les.cons | exact .nil)) rfl ?_
            rw [hd]
            repeat (first | refine seq_ ?_ | refine region_ ?_ | refine nil_ ?_ | refine skip_ ?_ | refine cond_f rfl ?_ | refine stepY (y_move rfl) rfl ?_ | refine stepY (y_assign rfl) rfl ?_ | refine stepY (y_extract rfl rfl) rfl ?_ | refine stepY (y_not rfl) rfl ?_)
            refine call_ Try.func65 rfl rfl hx rfl (by repeat (first | exact .refl _ | apply Les.cons | exact .nil)) rfl ?_
            repeat (first | refine nil_ ?_ | refine stepY (y_assign rfl) rfl ?_)
            refine ⟨k + 1, ⟨by omega, ?_⟩, by omega, ?_, ?_⟩
            · simp only [okD, hok, Bool.true_and, Bool.and_eq_true, decide_eq_true_eq]; exact hdig
            · show ∀ i x, _
              (repeat (first | exact sub_nil | refine sub_cons rfl ?_))
            · (repeat (first | exact subH_nil | refine subH_cons rfl ?_))
          · have hbad : ¬ okD (s) (s).size = true := fun h => hdig (okD_at hlt h)
            rw [if_neg hbad]
            have hc : 0 ≤ ((Utf8.decode (s) k).1 : Int) ∧ ((Utf8.decode (s) k).1 : Int) ≤ 2097152 ∧ ¬ (48 ≤ ((Utf8.decode (s) k).1 : Int) ∧ ((Utf8.decode (s) k).1 : Int) ≤ 57) := by
              by_cases h128 : bt (s) k < 128
              · rw [(dec_lo hlt h128).1]; omega
              · have := dec_hi hlt (by omega); omega
            obtain ⟨dd, hdf⟩ := digit_f _ ⟨hc.1, hc.2.1⟩ hc.2.2
            repeat (first | refine seq_ ?_ | refine region_ ?_ | refine nil_ ?_ | refine skip_ ?_ | refine block_ ?_ | refine cond_t rfl ?_ | refine stepY (y_move rfl) rfl ?_ | refine stepY (y_assign rfl) rfl ?_ | refine stepY (y_extract rfl rfl) rfl ?_ | refine stepE (e_next_in rfl rfl (by omega) rfl) ?_)
            refine call_ Try.func64 rfl rfl hdf rfl (by repeat (first | exact .refl _ | apply Les.cons | exact .nil)) rfl ?_
            repeat (first | refine seq_ ?_ | refine region_ ?_ | refine nil_ ?_ | refine ret_ ?_ | refine cond_t rfl ?_ | refine stepY (y_move rfl) rfl ?_ | refine stepY (y_assign rfl) rfl ?_ | refine stepY (y_extract rfl rfl) rfl ?_ | refine stepY (y_not rfl) rfl ?_ | refine stepY (y_build rfl rfl rfl) rfl ?_ | refine stepE (e_store rfl rfl rfl rfl rfl rfl rfl) ?_)
            ((apply fin_r); (repeat (first | exact .nil | exact .tmp rfl | exact .agg rfl rfl rfl | apply ResL.cons)); (repeat (first | exact .refl _ | exact .nil _ _ | apply Le.ag | apply Le.tp | apply Les.cons | exact .nil)))
        · obtain rfl : k = (s).size := by omega
          rw [if_pos hok]
          have hmd := made_c false (limbs (nm (s) (s).size)) (wf_limbs _) (by rw [limbs_length]; omega)
          rw [val_limbs] at hmd
          repeat (first | refine seq_ ?_ | refine region_ ?_ | refine nil_ ?_ | refine exit_ ?_ | refine cond_f rfl ?_ | refine stepY (y_move rfl) rfl ?_ | refine stepY (y_extract rfl rfl) rfl ?_ | refine stepY (e_next_end (d := 0) (N := 1) rfl rfl (by omega) rfl) rfl ?_)
          refine call_ Try.func54 rfl rfl hmd rfl (by repeat (first | exact .refl _ | apply Les.cons | exact .nil)) rfl ?_
          repeat (first | refine nil_ ?_ | refine ret_ ?_ | refine stepY (y_assign rfl) rfl ?_ | refine stepE (e_store rfl rfl rfl rfl rfl rfl rfl) ?_)
          ((apply fin_r); (repeat (first | exact .nil | exact .tmp rfl | exact .agg rfl rfl rfl | apply ResL.cons)); (repeat (exact .refl _)))
      · repeat (first | refine seq_ ?_ | refine region_ ?_ | refine nil_ ?_ | refine skip_ ?_ | refine cond_f rfl ?_ | refine guard_t rfl rfl rfl ?_ | refine stepY (y_move rfl) rfl ?_ | refine stepY (y_assign rfl) rfl ?_ | refine stepY (y_len_str rfl) rfl ?_ | refine stepY (y_pick_t rfl rfl) rfl ?_ | refine stepY (y_index_str rfl rfl (by omega) (by omega)) rfl ?_ | (first | refine stepY (y_cmpF rfl rfl rfl (by omega)) rfl ?_ | refine stepY (y_eqs rfl rfl) rfl ?_) | (first | refine stepY (y_cmpT rfl rfl rfl (by omega)) rfl ?_ | refine stepY (y_cmpF rfl rfl rfl (by omega)) rfl ?_) | refine stepE (e_alloc rfl rfl rfl) ?_)
        rw [he]
        repeat (first | refine seq_ ?_ | refine region_ ?_ | refine nil_ ?_ | refine skip_ ?_ | refine block_ ?_ | refine cond_f rfl ?_ | refine guard_t rfl rfl rfl ?_ | refine guard_f rfl rfl rfl rfl ?_ | refine guard_u rfl rfl rfl ?_ | refine stepY (y_move rfl) rfl ?_ | refine stepY (y_assign rfl) rfl ?_ | refine stepY (y_pick_f rfl rfl) rfl ?_ | refine stepY (y_index_str rfl rfl (by omega) (by omega)) rfl ?_ | refine stepY (y_cmpF rfl rfl rfl (by omega)) rfl ?_ | refine stepE (e_range_str rfl rfl rfl rfl) ?_)
        refine le_C (i := 6) (M 0) rfl (.nil _ _) ?_
        refine loop_ (α := Nat) (fun k => ([(2, .ptr 2 0), (5, .p (Bo false)), (6, .p (M (nm (s) k))), (44, .ptr 44 0)], [(2, .bx [Bo false, .v (.slice none 0 0)]), (44, .it (s) k)])) (fun k => k ≤ (s).size ∧ okD (s) k = true) (fun k => (s).size - k) 0 ⟨Nat.zero_le _, rfl⟩ ?_ ?_ ?_
        · (repeat (first | exact sub_nil | refine sub_cons rfl ?_))
        · (repeat (first | exact subH_nil | refine subH_cons rfl ?_))
        intro k ⟨hk, hok⟩
        have hbd := bt_bd (s) k
        have hnl := nm_ln hok (by omega)
        by_cases hlt : k < (s).size
        · by_cases hdig : 48 ≤ bt (s) k ∧ bt (s) k ≤ 57
          · obtain ⟨hd1, hd2⟩ := dec_lo hlt (by omega)
            have hx := extended_c (nm (s) k) 10 ((bt (s) k).toNat - 48) (by omega) (by decide) (by omega)
            have hd : bt (s) k - 48 = (((bt (s) k).toNat - 48 : Nat) : Int) := by omega
            repeat (first | refine seq_ ?_ | refine region_ ?_ | refine nil_ ?_ | refine skip_ ?_ | refine block_ ?_ | refine cond_t rfl ?_ | refine stepY (y_move rfl) rfl ?_ | refine stepY (y_assign rfl) rfl ?_ | refine stepY (y_extract rfl rfl) rfl ?_ | refine stepE (e_next_in rfl rfl (by omega) rfl) ?_)
            rw [hd1, hd2]
            refine call_ Try.func64 rfl rfl (digit_t _ hdig) rfl (by repeat (first | exact .refl _ | apply Les.cons | exact .nil)) rfl ?_
            rw [hd]
            repeat (first | refine seq_ ?_ | refine region_ ?_ | refine nil_ ?_ | refine skip_ ?_ | refine cond_f rfl ?_ | refine stepY (y_move rfl) rfl ?_ | refine stepY (y_assign rfl) rfl ?_ | refine stepY (y_extract rfl rfl) rfl ?_ | refine stepY (y_not rfl) rfl ?_)
            refine call_ Try.func65 rfl rfl hx rfl (by repeat (first | exact .refl _ | apply Les.cons | exact .nil)) rfl ?_
            repeat (first | refine nil_ ?_ | refine stepY (y_assign rfl) rfl ?_)
            refine ⟨k + 1, ⟨by omega, ?_⟩, by omega, ?_, ?_⟩
            · simp only [okD, hok, Bool.true_and, Bool.and_eq_true, decide_eq_true_eq]; exact hdig
            · show ∀ i x, _
              (repeat (first | exact sub_nil | refine sub_cons rfl ?_))
            · (repeat (first | exact subH_nil | refine subH_cons rfl ?_))
          · have hbad : ¬ okD (s) (s).size = true := fun h => hdig (okD_at hlt h)
            rw [if_neg hbad]
            have hc : 0 ≤ ((Utf8.decode (s) k).1 : Int) ∧ ((Utf8.decode (s) k).1 : Int) ≤ 2097152 ∧ ¬ (48 ≤ ((Utf8.decode (s) k).1 : Int) ∧ ((Utf8.decode (s) k).1 : Int) ≤ 57) := by
              by_cases h128 : bt (s) k < 128
              · rw [(dec_lo hlt h128).1]; omega
              · have := dec_hi hlt (by omega); omega
            obtain ⟨dd, hdf⟩ := digit_f _ ⟨hc.1, hc.2.1⟩ hc.2.2
            repeat (first | refine seq_ ?_ | refine region_ ?_ | refine nil_ ?_ | refine skip_ ?_ | refine block_ ?_ | refine cond_t rfl ?_ | refine stepY (y_move rfl) rfl ?_ | refine stepY (y_assign rfl) rfl ?_ | refine stepY (y_extract rfl rfl) rfl ?_ | refine stepE (e_next_in rfl rfl (by omega) rfl) ?_)
            refine call_ Try.func64 rfl rfl hdf rfl (by repeat (first | exact .refl _ | apply Les.cons | exact .nil)) rfl ?_
            repeat (first | refine seq_ ?_ | refine region_ ?_ | refine nil_ ?_ | refine ret_ ?_ | refine cond_t rfl ?_ | refine stepY (y_move rfl) rfl ?_ | refine stepY (y_assign rfl) rfl ?_ | refine stepY (y_extract rfl rfl) rfl ?_ | refine stepY (y_not rfl) rfl ?_ | refine stepY (y_build rfl rfl rfl) rfl ?_ | refine stepE (e_store rfl rfl rfl rfl rfl rfl rfl) ?_)
            ((apply fin_r); (repeat (first | exact .nil | exact .tmp rfl | exact .agg rfl rfl rfl | apply ResL.cons)); (repeat (first | exact .refl _ | exact .nil _ _ | apply Le.ag | apply Le.tp | apply Les.cons | exact .nil)))
        · obtain rfl : k = (s).size := by omega
          rw [if_pos hok]
          have hmd := made_c false (limbs (nm (s) (s).size)) (wf_limbs _) (by rw [limbs_length]; omega)
          rw [val_limbs] at hmd
          repeat (first | refine seq_ ?_ | refine region_ ?_ | refine nil_ ?_ | refine exit_ ?_ | refine cond_f rfl ?_ | refine stepY (y_move rfl) rfl ?_ | refine stepY (y_extract rfl rfl) rfl ?_ | refine stepY (e_next_end (d := 0) (N := 1) rfl rfl (by omega) rfl) rfl ?_)
          refine call_ Try.func54 rfl rfl hmd rfl (by repeat (first | exact .refl _ | apply Les.cons | exact .nil)) rfl ?_
          repeat (first | refine nil_ ?_ | refine ret_ ?_ | refine stepY (y_assign rfl) rfl ?_ | refine stepE (e_store rfl rfl rfl rfl rfl rfl rfl) ?_)
          ((apply fin_r); (repeat (first | exact .nil | exact .tmp rfl | exact .agg rfl rfl rfl | apply ResL.cons)); (repeat (exact .refl _)))
  · have hn : negS s = false := by simp [negS, hs]
    have ht : tS s = s := by simp [tS, hn]
    have hz : s.size = 0 := by omega
    have he : s = ⟨#[]⟩ := by
      apply ByteArray.ext
      apply Array.eq_empty_of_size_eq_zero
      exact hz
    have hde : decide (s = (⟨#[]⟩ : ByteArray)) = true := decide_eq_true he
    have hprt : prT false s = some none := by
      unfold prT
      rw [if_neg (by omega), if_pos (.inl hz)]
    rw [hn, ht, hprt]
    repeat (first | refine seq_ ?_ | refine region_ ?_ | refine nil_ ?_ | refine skip_ ?_ | refine cond_f rfl ?_ | refine guard_f rfl rfl rfl rfl ?_ | refine stepY (y_move rfl) rfl ?_ | refine stepY (y_assign rfl) rfl ?_ | refine stepY (y_len_str rfl) rfl ?_ | refine stepY (y_pick_f rfl rfl) rfl ?_ | refine stepY (y_eqs rfl rfl) rfl ?_ | refine stepY (y_cmpF rfl rfl rfl (by omega)) rfl ?_ | refine stepE (e_alloc rfl rfl rfl) ?_)
    rw [hde]
    repeat (first | refine seq_ ?_ | refine region_ ?_ | refine nil_ ?_ | refine ret_ ?_ | refine cond_t rfl ?_ | refine guard_f rfl rfl rfl rfl ?_ | refine guard_u rfl rfl rfl ?_ | refine stepY (y_assign rfl) rfl ?_ | refine stepY (y_pick_t rfl rfl) rfl ?_ | refine stepY (y_build rfl rfl rfl) rfl ?_ | refine stepE (e_store rfl rfl rfl rfl rfl rfl rfl) ?_)
    ((apply fin_r); (repeat (first | exact .nil | exact .tmp rfl | exact .agg rfl rfl rfl | apply ResL.cons)); (repeat (first | exact .refl _ | exact .nil _ _ | apply Le.ag | apply Le.tp | apply Les.cons | exact .nil)))
end Go.Av
