import Derived.Test.YtckngipgcnhfpaaLj
import Derived.Test.YtckngipgcnhfpaaLp
import Derived.Test.YtckngipgcnhfpaaLr
import Derived.Test.YtckngipgcnhfpaaLs
import Derived.Test.YtckngipgcnhfpaaLu
import Derived.Test.YtckngipgcnhfpaaAx
set_option maxHeartbeats 8000000
set_option exponentiation.threshold 100000
set_option maxRecDepth 100000
set_option linter.unusedVariables false
set_option linter.unusedSimpArgs false
namespace Go.Av
open Go Go.Proofs
theorem Pow_z (z : Int) (n : Nat) (h : ln z.natAbs ≤ 512) : Con Try.prog 21 [IV z, I n] (resI (z ^ n)) := by
  have := Pow_s (decide (z < 0)) z.natAbs n (vld_iv h)
  rwa [sgn_self] at this
theorem GCD_z (x y : Int) (hx : ln x.natAbs ≤ 512) (hy : ln y.natAbs ≤ 512) : Con Try.prog 17 [IV x, IV y] (.tp [FIV (Nat.gcd x.natAbs y.natAbs : Nat), E_ 0]) :=
  GCD_s (decide (x < 0)) (decide (y < 0)) x.natAbs y.natAbs (vld_iv hx) (vld_iv hy)
theorem Format_z (z : Int) (h : ln z.natAbs ≤ 512) : Con Try.prog 25 [IV z] (.v (.string (fmt (decide (z < 0)) z.natAbs))) :=
  Format_s (decide (z < 0)) z.natAbs (vld_iv h)
theorem exP : Con Try.prog 23 [.v (.string ⟨#[45, 49, 50]⟩)] (.tp [FIV (-12), E_ 0]) := by
  have := Parse_c ⟨#[45, 49, 50]⟩
  rwa [show prT (negS ⟨#[45, 49, 50]⟩) (tS ⟨#[45, 49, 50]⟩) = some (some (true, 12)) by decide] at this
theorem exP2 : Con Try.prog 23 [.v (.string ⟨#[45, 48]⟩)] (.tp [FIV 0, E_ 9]) := by
  have := Parse_c ⟨#[45, 48]⟩
  rwa [show prT (negS ⟨#[45, 48]⟩) (tS ⟨#[45, 48]⟩) = some none by decide] at this
theorem exF1 : fmt (decide ((2 : Int) ^ 100 < 0)) ((2 : Int) ^ 100).natAbs = ⟨#[49, 50, 54, 55, 54, 53, 48, 54, 48, 48, 50, 50, 56, 50, 50, 57, 52, 48, 49, 52, 57, 54, 55, 48, 51, 50, 48, 53, 51, 55, 54]⟩ := by decide
theorem exF2 : fmt (decide (((6 : Nat) : Int) < 0)) ((6 : Nat) : Int).natAbs = ⟨#[54]⟩ := by decide
theorem exF3 : fmt (decide ((-4 : Int) < 0)) (-4 : Int).natAbs = ⟨#[45, 52]⟩ := by decide
theorem exF4 : fmt (decide ((1 : Int) < 0)) (1 : Int).natAbs = ⟨#[49]⟩ := by decide
theorem exD : dgR 1000 900 = .tp [FI64 [1, 100], E_ 0] := by
  unfold dgR
  rw [if_neg (by decide), if_neg (by decide), show (dI 900 1000).reverse = [1, 100] by decide]
theorem exQ : dq true false 7 2 = -4 := by decide
theorem exR : dr true false 7 2 = 1 := by decide
theorem examples_c : Con Try.prog 20 [] (Bo true) := by
  refine con_of Try.func20 rfl rfl rfl rfl rfl ?_
  have f2 := FromInt_c 2 (by omega)
  have f12 := FromInt_c 12 (by omega)
  have f18 := FromInt_c (-18) (by omega)
  have f1000 := FromInt_c 1000 (by omega)
  have f7 := FromInt_c (-7) (by omega)
  have fm12 := FromInt_c (-12) (by omega)
  have hpw : Con Try.prog 21 [IV 2, I 100] (.tp [FIV (2 ^ 100), E_ 0]) := by
    have := Pow_z 2 100 (by decide)
    rwa [resI_ok (by decide)] at this
  have hg : Con Try.prog 17 [IV 12, IV (-18)] (.tp [FIV 6, E_ 0]) := GCD_z 12 (-18) (by decide) (by decide)
  have hd := Digits_s 1000 900 (by decide) (by decide) (by decide)
  rw [exD] at hd
  have hdm : Con Try.prog 15 [IV (-7), IV 2] (.tp [FIV (-4), FIV 1, E_ 0]) := by
    have := DivMod_s true false 7 2 (by decide) (by decide) (by decide)
    rwa [exQ, exR] at this
  have g1 := Format_z (2 ^ 100) (by decide)
  have g2 := Format_z 6 (by decide)
  have g3 := Format_z (-4) (by decide)
  have g4 := Format_z 1 (by decide)
  rw [exF1] at g1
  rw [show fmt (decide ((6 : Int) < 0)) (6 : Int).natAbs = ⟨#[54]⟩ from exF2] at g2
  rw [exF3] at g3
  rw [exF4] at g4
  have hs := same_r (-12)
  have hl2 : ([1, 100] : List Int).length = 2 := rfl
  have hr0 : rd [1, 100] 0 = 1 := rfl
  have hr1 : rd [1, 100] 1 = 100 := rfl
  repeat (first | refine seq_ ?_ | refine region_ ?_ | refine nil_ ?_ | refine stepY (y_assign rfl) rfl ?_)
  refine call_ Try.func30 rfl rfl f2 rfl (by repeat (first | exact .refl _ | apply Les.cons | exact .nil)) rfl ?_
  repeat (first | refine seq_ ?_ | refine region_ ?_ | refine nil_ ?_ | refine stepY (y_loadA rfl rfl rfl) rfl ?_ | refine stepE (e_alloc rfl rfl rfl) ?_ | refine stepE (e_store rfl rfl rfl rfl rfl rfl rfl) ?_)
  refine call_ Try.func21 rfl rfl hpw rfl (by repeat (first | exact .refl _ | exact .tag _ _ | apply Le.ag | apply Les.cons | exact .nil)) rfl ?_
  repeat (first | refine seq_ ?_ | refine region_ ?_ | refine nil_ ?_ | refine stepY (y_move rfl) rfl ?_ | refine stepY (y_assign rfl) rfl ?_ | refine stepY (y_extract rfl rfl) rfl ?_ | refine stepE (e_alloc rfl rfl rfl) ?_ | refine stepE (e_store rfl rfl rfl rfl rfl rfl rfl) ?_)
  refine call_ Try.func30 rfl rfl f12 rfl (by repeat (first | exact .refl _ | apply Les.cons | exact .nil)) rfl ?_
  skip
  refine call_ Try.func30 rfl rfl f18 rfl (by repeat (first | exact .refl _ | apply Les.cons | exact .nil)) rfl ?_
  skip
  refine call_ Try.func17 rfl rfl hg rfl (by repeat (first | exact .refl _ | exact .tag _ _ | apply Le.ag | apply Les.cons | exact .nil)) rfl ?_
  repeat (first | refine seq_ ?_ | refine region_ ?_ | refine nil_ ?_ | refine stepY (y_move rfl) rfl ?_ | refine stepY (y_assign rfl) rfl ?_ | refine stepY (y_extract rfl rfl) rfl ?_ | refine stepE (e_alloc rfl rfl rfl) ?_ | refine stepE (e_store rfl rfl rfl rfl rfl rfl rfl) ?_)
  refine call_ Try.func23 rfl rfl exP rfl (by repeat (first | exact .refl _ | apply Les.cons | exact .nil)) rfl ?_
  repeat (first | refine seq_ ?_ | refine region_ ?_ | refine nil_ ?_ | refine stepY (y_move rfl) rfl ?_ | refine stepY (y_assign rfl) rfl ?_ | refine stepY (y_extract rfl rfl) rfl ?_ | refine stepE (e_alloc rfl rfl rfl) ?_ | refine stepE (e_store rfl rfl rfl rfl rfl rfl rfl) ?_)
  refine call_ Try.func23 rfl rfl exP2 rfl (by repeat (first | exact .refl _ | apply Les.cons | exact .nil)) rfl ?_
  repeat (first | refine seq_ ?_ | refine region_ ?_ | refine nil_ ?_ | refine stepY (y_move rfl) rfl ?_ | refine stepY (y_assign rfl) rfl ?_ | refine stepY (y_extract rfl rfl) rfl ?_ | refine stepE (e_alloc rfl rfl rfl) ?_ | refine stepE (e_store rfl rfl rfl rfl rfl rfl rfl) ?_)
  refine call_ Try.func30 rfl rfl f1000 rfl (by repeat (first | exact .refl _ | apply Les.cons | exact .nil)) rfl ?_
  skip
  refine call_ Try.func35 rfl rfl hd rfl (by repeat (first | exact .refl _ | exact .tag _ _ | apply Le.ag | apply Les.cons | exact .nil)) rfl ?_
  repeat (first | refine seq_ ?_ | refine nil_ ?_ | refine stepY (y_move rfl) rfl ?_ | refine stepY (y_assign rfl) rfl ?_ | refine stepY (y_extract rfl rfl) rfl ?_)
  refine cut_ [(2, .ptr 2 0), (3, .p (E_ 0)), (4, .ptr 4 0), (5, .p (E_ 0)), (6, .ptr 6 0), (7, .p (E_ 0)), (9, .p (E_ 9)), (10, .p (FI64 [1, 100])), (11, .p (E_ 0)), (12, .ptr 12 0), (13, .ptr 13 0), (14, .p (E_ 0))] [(2, .bx [Bo false, FM (2 ^ 100)]), (4, .bx [Bo false, FM 6]), (6, .bx [Bo true, FM 12]), (12, .bx [Bo true, FM 4]), (13, .bx [Bo false, FM 1])] ?_ ?_
  · refine xDraw 1000 [1] mixed ?_
    refine xY (i := 1) (op := .load _ _) rfl (by (exact y_loadA rfl rfl rfl)) rfl rfl rfl rfl (by kernel_rfl) ?_
    refine xAll (rs := [0, 7, 8]) (by kernel_rfl) rfl ⟨?_, ?_, ?_, trivial⟩
    · refine iC rfl Try.func30 rfl rfl f7 rfl (by repeat (first | exact .refl _ | apply Les.cons | exact .nil)) rfl rfl ?_
      refine xAll (rs := [2, 7, 8]) (by kernel_rfl) rfl ⟨?_, ?_, ?_, trivial⟩
      · refine iC rfl Try.func15 rfl rfl hdm rfl (by repeat (first | exact .refl _ | exact .tag _ _ | apply Le.ag | apply Les.cons | exact .nil)) rfl rfl ?_
        refine xY (i := 3) (op := .move _) rfl (by (exact y_move rfl)) rfl rfl rfl rfl (by kernel_rfl) ?_
        refine xY (i := 4) (op := .extract _ _) rfl (by (exact y_extract rfl rfl)) rfl rfl rfl rfl (by kernel_rfl) ?_
        refine xY (i := 5) (op := .extract _ _) rfl (by (exact y_extract rfl rfl)) rfl rfl rfl rfl (by kernel_rfl) ?_
        refine xY (i := 6) (op := .extract _ _) rfl (by (exact y_extract rfl rfl)) rfl rfl rfl rfl (by kernel_rfl) ?_
        refine xAll (rs := [7, 8]) (by kernel_rfl) rfl ⟨?_, ?_, trivial⟩
        · (refine iE rfl (e_alloc rfl rfl rfl) rfl rfl ?_)
          refine xAll (rs := [8]) (by kernel_rfl) rfl ⟨?_, trivial⟩
          · (refine iE rfl (e_alloc rfl rfl rfl) rfl rfl ?_)
            refine xAll (rs := [9]) (by kernel_rfl) rfl ⟨?_, trivial⟩
            · (refine iE rfl (e_store rfl rfl rfl rfl rfl rfl rfl) rfl rfl ?_)
              refine xAll (rs := [10]) (by kernel_rfl) rfl ⟨?_, trivial⟩
              · (refine iE rfl (e_store rfl rfl rfl rfl rfl rfl rfl) rfl rfl ?_)
                refine xY (i := 11) (op := .assign _) rfl (by (exact y_assign rfl)) rfl rfl rfl rfl (by kernel_rfl) ?_
                exact xEnd (by kernel_rfl) ⟨rfl, by (repeat (first | exact sub_nil | refine sub_cons rfl ?_)), by (repeat (first | exact subH_nil | refine subH_cons rfl ?_))⟩
        · (refine iE rfl (e_alloc rfl rfl rfl) rfl rfl ?_)
          refine xAll (rs := [7]) (by kernel_rfl) rfl ⟨?_, trivial⟩
          · (refine iE rfl (e_alloc rfl rfl rfl) rfl rfl ?_)
            refine xAll (rs := [9]) (by kernel_rfl) rfl ⟨?_, trivial⟩
            · (refine iE rfl (e_store rfl rfl rfl rfl rfl rfl rfl) rfl rfl ?_)
              refine xAll (rs := [10]) (by kernel_rfl) rfl ⟨?_, trivial⟩
              · (refine iE rfl (e_store rfl rfl rfl rfl rfl rfl rfl) rfl rfl ?_)
                refine xY (i := 11) (op := .assign _) rfl (by (exact y_assign rfl)) rfl rfl rfl rfl (by kernel_rfl) ?_
                exact xEnd (by kernel_rfl) ⟨rfl, by (repeat (first | exact sub_nil | refine sub_cons rfl ?_)), by (repeat (first | exact subH_nil | refine subH_cons rfl ?_))⟩
      · (refine iE rfl (e_alloc rfl rfl rfl) rfl rfl ?_)
        refine xAll (rs := [2, 8]) (by kernel_rfl) rfl ⟨?_, ?_, trivial⟩
        · refine iC rfl Try.func15 rfl rfl hdm rfl (by repeat (first | exact .refl _ | exact .tag _ _ | apply Le.ag | apply Les.cons | exact .nil)) rfl rfl ?_
          refine xY (i := 3) (op := .move _) rfl (by (exact y_move rfl)) rfl rfl rfl rfl (by kernel_rfl) ?_
          refine xY (i := 4) (op := .extract _ _) rfl (by (exact y_extract rfl rfl)) rfl rfl rfl rfl (by kernel_rfl) ?_
          refine xY (i := 5) (op := .extract _ _) rfl (by (exact y_extract rfl rfl)) rfl rfl rfl rfl (by kernel_rfl) ?_
          refine xY (i := 6) (op := .extract _ _) rfl (by (exact y_extract rfl rfl)) rfl rfl rfl rfl (by kernel_rfl) ?_
          refine xAll (rs := [8]) (by kernel_rfl) rfl ⟨?_, trivial⟩
          · (refine iE rfl (e_alloc rfl rfl rfl) rfl rfl ?_)
            refine xAll (rs := [9]) (by kernel_rfl) rfl ⟨?_, trivial⟩
            · (refine iE rfl (e_store rfl rfl rfl rfl rfl rfl rfl) rfl rfl ?_)
              refine xAll (rs := [10]) (by kernel_rfl) rfl ⟨?_, trivial⟩
              · (refine iE rfl (e_store rfl rfl rfl rfl rfl rfl rfl) rfl rfl ?_)
                refine xY (i := 11) (op := .assign _) rfl (by (exact y_assign rfl)) rfl rfl rfl rfl (by kernel_rfl) ?_
                exact xEnd (by kernel_rfl) ⟨rfl, by (repeat (first | exact sub_nil | refine sub_cons rfl ?_)), by (repeat (first | exact subH_nil | refine subH_cons rfl ?_))⟩
        · (refine iE rfl (e_alloc rfl rfl rfl) rfl rfl ?_)
          refine xAll (rs := [2]) (by kernel_rfl) rfl ⟨?_, trivial⟩
          · refine iC rfl Try.func15 rfl rfl hdm rfl (by repeat (first | exact .refl _ | exact .tag _ _ | apply Le.ag | apply Les.cons | exact .nil)) rfl rfl ?_
            refine xY (i := 3) (op := .move _) rfl (by (exact y_move rfl)) rfl rfl rfl rfl (by kernel_rfl) ?_
            refine xY (i := 4) (op := .extract _ _) rfl (by (exact y_extract rfl rfl)) rfl rfl rfl rfl (by kernel_rfl) ?_
            refine xY (i := 5) (op := .extract _ _) rfl (by (exact y_extract rfl rfl)) rfl rfl rfl rfl (by kernel_rfl) ?_
            refine xY (i := 6) (op := .extract _ _) rfl (by (exact y_extract rfl rfl)) rfl rfl rfl rfl (by kernel_rfl) ?_
            refine xAll (rs := [9]) (by kernel_rfl) rfl ⟨?_, trivial⟩
            · (refine iE rfl (e_store rfl rfl rfl rfl rfl rfl rfl) rfl rfl ?_)
              refine xAll (rs := [10]) (by kernel_rfl) rfl ⟨?_, trivial⟩
              · (refine iE rfl (e_store rfl rfl rfl rfl rfl rfl rfl) rfl rfl ?_)
                refine xY (i := 11) (op := .assign _) rfl (by (exact y_assign rfl)) rfl rfl rfl rfl (by kernel_rfl) ?_
                exact xEnd (by kernel_rfl) ⟨rfl, by (repeat (first | exact sub_nil | refine sub_cons rfl ?_)), by (repeat (first | exact subH_nil | refine subH_cons rfl ?_))⟩
      · (refine iE rfl (e_alloc rfl rfl rfl) rfl rfl ?_)
        refine xAll (rs := [2, 7]) (by kernel_rfl) rfl ⟨?_, ?_, trivial⟩
        · refine iC rfl Try.func15 rfl rfl hdm rfl (by repeat (first | exact .refl _ | exact .tag _ _ | apply Le.ag | apply Les.cons | exact .nil)) rfl rfl ?_
          refine xY (i := 3) (op := .move _) rfl (by (exact y_move rfl)) rfl rfl rfl rfl (by kernel_rfl) ?_
          refine xY (i := 4) (op := .extract _ _) rfl (by (exact y_extract rfl rfl)) rfl rfl rfl rfl (by kernel_rfl) ?_
          refine xY (i := 5) (op := .extract _ _) rfl (by (exact y_extract rfl rfl)) rfl rfl rfl rfl (by kernel_rfl) ?_
          refine xY (i := 6) (op := .extract _ _) rfl (by (exact y_extract rfl rfl)) rfl rfl rfl rfl (by kernel_rfl) ?_
          refine xAll (rs := [7]) (by kernel_rfl) rfl ⟨?_, trivial⟩
          · (refine iE rfl (e_alloc rfl rfl rfl) rfl rfl ?_)
            refine xAll (rs := [9]) (by kernel_rfl) rfl ⟨?_, trivial⟩
            · (refine iE rfl (e_store rfl rfl rfl rfl rfl rfl rfl) rfl rfl ?_)
              refine xAll (rs := [10]) (by kernel_rfl) rfl ⟨?_, trivial⟩
              · (refine iE rfl (e_store rfl rfl rfl rfl rfl rfl rfl) rfl rfl ?_)
                refine xY (i := 11) (op := .assign _) rfl (by (exact y_assign rfl)) rfl rfl rfl rfl (by kernel_rfl) ?_
                exact xEnd (by kernel_rfl) ⟨rfl, by (repeat (first | exact sub_nil | refine sub_cons rfl ?_)), by (repeat (first | exact subH_nil | refine subH_cons rfl ?_))⟩
        · (refine iE rfl (e_alloc rfl rfl rfl) rfl rfl ?_)
          refine xAll (rs := [2]) (by kernel_rfl) rfl ⟨?_, trivial⟩
          · refine iC rfl Try.func15 rfl rfl hdm rfl (by repeat (first | exact .refl _ | exact .tag _ _ | apply Le.ag | apply Les.cons | exact .nil)) rfl rfl ?_
            refine xY (i := 3) (op := .move _) rfl (by (exact y_move rfl)) rfl rfl rfl rfl (by kernel_rfl) ?_
            refine xY (i := 4) (op := .extract _ _) rfl (by (exact y_extract rfl rfl)) rfl rfl rfl rfl (by kernel_rfl) ?_
            refine xY (i := 5) (op := .extract _ _) rfl (by (exact y_extract rfl rfl)) rfl rfl rfl rfl (by kernel_rfl) ?_
            refine xY (i := 6) (op := .extract _ _) rfl (by (exact y_extract rfl rfl)) rfl rfl rfl rfl (by kernel_rfl) ?_
            refine xAll (rs := [9]) (by kernel_rfl) rfl ⟨?_, trivial⟩
            · (refine iE rfl (e_store rfl rfl rfl rfl rfl rfl rfl) rfl rfl ?_)
              refine xAll (rs := [10]) (by kernel_rfl) rfl ⟨?_, trivial⟩
              · (refine iE rfl (e_store rfl rfl rfl rfl rfl rfl rfl) rfl rfl ?_)
                refine xY (i := 11) (op := .assign _) rfl (by (exact y_assign rfl)) rfl rfl rfl rfl (by kernel_rfl) ?_
                exact xEnd (by kernel_rfl) ⟨rfl, by (repeat (first | exact sub_nil | refine sub_cons rfl ?_)), by (repeat (first | exact subH_nil | refine subH_cons rfl ?_))⟩
    · (refine iE rfl (e_alloc rfl rfl rfl) rfl rfl ?_)
      refine xAll (rs := [0, 8]) (by kernel_rfl) rfl ⟨?_, ?_, trivial⟩
      · refine iC rfl Try.func30 rfl rfl f7 rfl (by repeat (first | exact .refl _ | apply Les.cons | exact .nil)) rfl rfl ?_
        refine xAll (rs := [2, 8]) (by kernel_rfl) rfl ⟨?_, ?_, trivial⟩
        · refine iC rfl Try.func15 rfl rfl hdm rfl (by repeat (first | exact .refl _ | exact .tag _ _ | apply Le.ag | apply Les.cons | exact .nil)) rfl rfl ?_
          refine xY (i := 3) (op := .move _) rfl (by (exact y_move rfl)) rfl rfl rfl rfl (by kernel_rfl) ?_
          refine xY (i := 4) (op := .extract _ _) rfl (by (exact y_extract rfl rfl)) rfl rfl rfl rfl (by kernel_rfl) ?_
          refine xY (i := 5) (op := .extract _ _) rfl (by (exact y_extract rfl rfl)) rfl rfl rfl rfl (by kernel_rfl) ?_
          refine xY (i := 6) (op := .extract _ _) rfl (by (exact y_extract rfl rfl)) rfl rfl rfl rfl (by kernel_rfl) ?_
          refine xAll (rs := [8]) (by kernel_rfl) rfl ⟨?_, trivial⟩
          · (refine iE rfl (e_alloc rfl rfl rfl) rfl rfl ?_)
            refine xAll (rs := [9]) (by kernel_rfl) rfl ⟨?_, trivial⟩
            · (refine iE rfl (e_store rfl rfl rfl rfl rfl rfl rfl) rfl rfl ?_)
              refine xAll (rs := [10]) (by kernel_rfl) rfl ⟨?_, trivial⟩
              · (refine iE rfl (e_store rfl rfl rfl rfl rfl rfl rfl) rfl rfl ?_)
                refine xY (i := 11) (op := .assign _) rfl (by (exact y_assign rfl)) rfl rfl rfl rfl (by kernel_rfl) ?_
                exact xEnd (by kernel_rfl) ⟨rfl, by (repeat (first | exact sub_nil | refine sub_cons rfl ?_)), by (repeat (first | exact subH_nil | refine subH_cons rfl ?_))⟩
        · (refine iE rfl (e_alloc rfl rfl rfl) rfl rfl ?_)
          refine xAll (rs := [2]) (by kernel_rfl) rfl ⟨?_, trivial⟩
          · refine iC rfl Try.func15 rfl rfl hdm rfl (by repeat (first | exact .refl _ | exact .tag _ _ | apply Le.ag | apply Les.cons | exact .nil)) rfl rfl ?_
            refine xY (i := 3) (op := .move _) rfl (by (exact y_move rfl)) rfl rfl rfl rfl (by kernel_rfl) ?_
            refine xY (i := 4) (op := .extract _ _) rfl (by (exact y_extract rfl rfl)) rfl rfl rfl rfl (by kernel_rfl) ?_
            refine xY (i := 5) (op := .extract _ _) rfl (by (exact y_extract rfl rfl)) rfl rfl rfl rfl (by kernel_rfl) ?_
            refine xY (i := 6) (op := .extract _ _) rfl (by (exact y_extract rfl rfl)) rfl rfl rfl rfl (by kernel_rfl) ?_
            refine xAll (rs := [9]) (by kernel_rfl) rfl ⟨?_, trivial⟩
            · (refine iE rfl (e_store rfl rfl rfl rfl rfl rfl rfl) rfl rfl ?_)
              refine xAll (rs := [10]) (by kernel_rfl) rfl ⟨?_, trivial⟩
              · (refine iE rfl (e_store rfl rfl rfl rfl rfl rfl rfl) rfl rfl ?_)
                refine xY (i := 11) (op := .assign _) rfl (by (exact y_assign rfl)) rfl rfl rfl rfl (by kernel_rfl) ?_
                exact xEnd (by kernel_rfl) ⟨rfl, by (repeat (first | exact sub_nil | refine sub_cons rfl ?_)), by (repeat (first | exact subH_nil | refine subH_cons rfl ?_))⟩
      · (refine iE rfl (e_alloc rfl rfl rfl) rfl rfl ?_)
        refine xAll (rs := [0]) (by kernel_rfl) rfl ⟨?_, trivial⟩
        · refine iC rfl Try.func30 rfl rfl f7 rfl (by repeat (first | exact .refl _ | apply Les.cons | exact .nil)) rfl rfl ?_
          refine xAll (rs := [2]) (by kernel_rfl) rfl ⟨?_, trivial⟩
          · refine iC rfl Try.func15 rfl rfl hdm rfl (by repeat (first | exact .refl _ | exact .tag _ _ | apply Le.ag | apply Les.cons | exact .nil)) rfl rfl ?_
            refine xY (i := 3) (op := .move _) rfl (by (exact y_move rfl)) rfl rfl rfl rfl (by kernel_rfl) ?_
            refine xY (i := 4) (op := .extract _ _) rfl (by (exact y_extract rfl rfl)) rfl rfl rfl rfl (by kernel_rfl) ?_
            refine xY (i := 5) (op := .extract _ _) rfl (by (exact y_extract rfl rfl)) rfl rfl rfl rfl (by kernel_rfl) ?_
            refine xY (i := 6) (op := .extract _ _) rfl (by (exact y_extract rfl rfl)) rfl rfl rfl rfl (by kernel_rfl) ?_
            refine xAll (rs := [9]) (by kernel_rfl) rfl ⟨?_, trivial⟩
            · (refine iE rfl (e_store rfl rfl rfl rfl rfl rfl rfl) rfl rfl ?_)
              refine xAll (rs := [10]) (by kernel_rfl) rfl ⟨?_, trivial⟩
              · (refine iE rfl (e_store rfl rfl rfl rfl rfl rfl rfl) rfl rfl ?_)
                refine xY (i := 11) (op := .assign _) rfl (by (exact y_assign rfl)) rfl rfl rfl rfl (by kernel_rfl) ?_
                exact xEnd (by kernel_rfl) ⟨rfl, by (repeat (first | exact sub_nil | refine sub_cons rfl ?_)), by (repeat (first | exact subH_nil | refine subH_cons rfl ?_))⟩
    · (refine iE rfl (e_alloc rfl rfl rfl) rfl rfl ?_)
      refine xAll (rs := [0, 7]) (by kernel_rfl) rfl ⟨?_, ?_, trivial⟩
      · refine iC rfl Try.func30 rfl rfl f7 rfl (by repeat (first | exact .refl _ | apply Les.cons | exact .nil)) rfl rfl ?_
        refine xAll (rs := [2, 7]) (by kernel_rfl) rfl ⟨?_, ?_, trivial⟩
        · refine iC rfl Try.func15 rfl rfl hdm rfl (by repeat (first | exact .refl _ | exact .tag _ _ | apply Le.ag | apply Les.cons | exact .nil)) rfl rfl ?_
          refine xY (i := 3) (op := .move _) rfl (by (exact y_move rfl)) rfl rfl rfl rfl (by kernel_rfl) ?_
          refine xY (i := 4) (op := .extract _ _) rfl (by (exact y_extract rfl rfl)) rfl rfl rfl rfl (by kernel_rfl) ?_
          refine xY (i := 5) (op := .extract _ _) rfl (by (exact y_extract rfl rfl)) rfl rfl rfl rfl (by kernel_rfl) ?_
          refine xY (i := 6) (op := .extract _ _) rfl (by (exact y_extract rfl rfl)) rfl rfl rfl rfl (by kernel_rfl) ?_
          refine xAll (rs := [7]) (by kernel_rfl) rfl ⟨?_, trivial⟩
          · (refine iE rfl (e_alloc rfl rfl rfl) rfl rfl ?_)
            refine xAll (rs := [9]) (by kernel_rfl) rfl ⟨?_, trivial⟩
            · (refine iE rfl (e_store rfl rfl rfl rfl rfl rfl rfl) rfl rfl ?_)
              refine xAll (rs := [10]) (by kernel_rfl) rfl ⟨?_, trivial⟩
              · (refine iE rfl (e_store rfl rfl rfl rfl rfl rfl rfl) rfl rfl ?_)
                refine xY (i := 11) (op := .assign _) rfl (by (exact y_assign rfl)) rfl rfl rfl rfl (by kernel_rfl) ?_
                exact xEnd (by kernel_rfl) ⟨rfl, by (repeat (first | exact sub_nil | refine sub_cons rfl ?_)), by (repeat (first | exact subH_nil | refine subH_cons rfl ?_))⟩
        · (refine iE rfl (e_alloc rfl rfl rfl) rfl rfl ?_)
          refine xAll (rs := [2]) (by kernel_rfl) rfl ⟨?_, trivial⟩
          · refine iC rfl Try.func15 rfl rfl hdm rfl (by repeat (first | exact .refl _ | exact .tag _ _ | apply Le.ag | apply Les.cons | exact .nil)) rfl rfl ?_
            refine xY (i := 3) (op := .move _) rfl (by (exact y_move rfl)) rfl rfl rfl rfl (by kernel_rfl) ?_
            refine xY (i := 4) (op := .extract _ _) rfl (by (exact y_extract rfl rfl)) rfl rfl rfl rfl (by kernel_rfl) ?_
            refine xY (i := 5) (op := .extract _ _) rfl (by (exact y_extract rfl rfl)) rfl rfl rfl rfl (by kernel_rfl) ?_
            refine xY (i := 6) (op := .extract _ _) rfl (by (exact y_extract rfl rfl)) rfl rfl rfl rfl (by kernel_rfl) ?_
            refine xAll (rs := [9]) (by kernel_rfl) rfl ⟨?_, trivial⟩
            · (refine iE rfl (e_store rfl rfl rfl rfl rfl rfl rfl) rfl rfl ?_)
              refine xAll (rs := [10]) (by kernel_rfl) rfl ⟨?_, trivial⟩
              · (refine iE rfl (e_store rfl rfl rfl rfl rfl rfl rfl) rfl rfl ?_)
                refine xY (i := 11) (op := .assign _) rfl (by (exact y_assign rfl)) rfl rfl rfl rfl (by kernel_rfl) ?_
                exact xEnd (by kernel_rfl) ⟨rfl, by (repeat (first | exact sub_nil | refine sub_cons rfl ?_)), by (repeat (first | exact subH_nil | refine subH_cons rfl ?_))⟩
      · (refine iE rfl (e_alloc rfl rfl rfl) rfl rfl ?_)
        refine xAll (rs := [0]) (by kernel_rfl) rfl ⟨?_, trivial⟩
        · refine iC rfl Try.func30 rfl rfl f7 rfl (by repeat (first | exact .refl _ | apply Les.cons | exact .nil)) rfl rfl ?_
          refine xAll (rs := [2]) (by kernel_rfl) rfl ⟨?_, trivial⟩
          · refine iC rfl Try.func15 rfl rfl hdm rfl (by repeat (first | exact .refl _ | exact .tag _ _ | apply Le.ag | apply Les.cons | exact .nil)) rfl rfl ?_
            refine xY (i := 3) (op := .move _) rfl (by (exact y_move rfl)) rfl rfl rfl rfl (by kernel_rfl) ?_
            refine xY (i := 4) (op := .extract _ _) rfl (by (exact y_extract rfl rfl)) rfl rfl rfl rfl (by kernel_rfl) ?_
            refine xY (i := 5) (op := .extract _ _) rfl (by (exact y_extract rfl rfl)) rfl rfl rfl rfl (by kernel_rfl) ?_
            refine xY (i := 6) (op := .extract _ _) rfl (by (exact y_extract rfl rfl)) rfl rfl rfl rfl (by kernel_rfl) ?_
            refine xAll (rs := [9]) (by kernel_rfl) rfl ⟨?_, trivial⟩
            · (refine iE rfl (e_store rfl rfl rfl rfl rfl rfl rfl) rfl rfl ?_)
              refine xAll (rs := [10]) (by kernel_rfl) rfl ⟨?_, trivial⟩
              · (refine iE rfl (e_store rfl rfl rfl rfl rfl rfl rfl) rfl rfl ?_)
                refine xY (i := 11) (op := .assign _) rfl (by (exact y_assign rfl)) rfl rfl rfl rfl (by kernel_rfl) ?_
                exact xEnd (by kernel_rfl) ⟨rfl, by (repeat (first | exact sub_nil | refine sub_cons rfl ?_)), by (repeat (first | exact subH_nil | refine subH_cons rfl ?_))⟩
  repeat (first | refine seq_ ?_ | refine region_ ?_ | refine nil_ ?_ | refine skip_ ?_ | refine cond_f rfl ?_ | refine guard_t rfl rfl rfl ?_ | refine stepY (y_move rfl) rfl ?_ | refine stepY (y_len_si rfl) rfl ?_ | refine stepY (y_pick_f rfl rfl) rfl ?_ | refine stepY (y_cmpF rfl rfl rfl (by omega)) rfl ?_)
  refine draw_ [(0, true), (1, false), (2, true), (3, true), (4, true), (5, false), (6, true), (7, true), (8, true), (9, true), (10, false), (11, false), (12, true), (13, true), (14, true), (15, true), (16, false), (17, true), (18, true), (19, true), (20, true), (21, true), (22, false), (23, true), (24, true), (25, true), (26, true), (27, false), (28, true), (29, true), (30, true), (31, true), (32, false), (33, true), (34, true), (35, true)] 1000 [2,4,6,12,13] mixed (by kernel_rfl) rfl ?_
  ((refine dY rfl (y_loadA rfl rfl rfl) rfl rfl rfl rfl ?_))
  refine dC rfl Try.func25 rfl rfl g1 rfl (by repeat (first | exact .refl _ | exact .tag _ _ | apply Le.ag | apply Les.cons | exact .nil)) rfl rfl ?_
  ((refine dY rfl (y_eqs rfl rfl) rfl rfl rfl rfl ?_); refine dY rfl (y_move rfl) rfl rfl rfl rfl ?_; refine dY rfl (y_loadA rfl rfl rfl) rfl rfl rfl rfl ?_)
  refine dC rfl Try.func25 rfl rfl g2 rfl (by repeat (first | exact .refl _ | exact .tag _ _ | apply Le.ag | apply Les.cons | exact .nil)) rfl rfl ?_
  ((refine dY rfl (y_eqs rfl rfl) rfl rfl rfl rfl ?_); refine dY rfl (y_pick_t rfl rfl) rfl rfl rfl rfl ?_; refine dY rfl (y_move rfl) rfl rfl rfl rfl ?_; refine dY rfl (y_loadA rfl rfl rfl) rfl rfl rfl rfl ?_)
  refine dC rfl Try.func30 rfl rfl fm12 rfl (by repeat (first | exact .refl _ | apply Les.cons | exact .nil)) rfl rfl ?_
  skip
  refine dC rfl Try.func19 rfl rfl hs rfl (by repeat (first | exact .refl _ | exact .tag _ _ | apply Le.ag | apply Les.cons | exact .nil)) rfl rfl ?_
  ((refine dY rfl (y_pick_t rfl rfl) rfl rfl rfl rfl ?_); refine dY rfl (y_move rfl) rfl rfl rfl rfl ?_; refine dY rfl (y_move rfl) rfl rfl rfl rfl ?_; refine dY rfl (y_index_si rfl rfl (by omega) (by omega)) rfl rfl rfl rfl ?_; refine dY1 rfl (y_load_rc1 rfl rfl) rfl rfl rfl ?_; refine dY rfl (y_cmpT rfl rfl rfl (by omega)) rfl rfl rfl rfl ?_; refine dY rfl (y_pick_t rfl rfl) rfl rfl rfl rfl ?_; refine dY rfl (y_move rfl) rfl rfl rfl rfl ?_; refine dY rfl (y_move rfl) rfl rfl rfl rfl ?_; refine dY rfl (y_index_si rfl rfl (by omega) (by omega)) rfl rfl rfl rfl ?_; refine dY1 rfl (y_load_rc1 rfl rfl) rfl rfl rfl ?_; refine dY rfl (y_cmpT rfl rfl rfl (by omega)) rfl rfl rfl rfl ?_; refine dY rfl (y_pick_t rfl rfl) rfl rfl rfl rfl ?_; refine dY rfl (y_move rfl) rfl rfl rfl rfl ?_; refine dY rfl (y_loadA rfl rfl rfl) rfl rfl rfl rfl ?_)
  refine dC rfl Try.func25 rfl rfl g3 rfl (by repeat (first | exact .refl _ | exact .tag _ _ | apply Le.ag | apply Les.cons | exact .nil)) rfl rfl ?_
  ((refine dY rfl (y_eqs rfl rfl) rfl rfl rfl rfl ?_); refine dY rfl (y_pick_t rfl rfl) rfl rfl rfl rfl ?_; refine dY rfl (y_move rfl) rfl rfl rfl rfl ?_; refine dY rfl (y_loadA rfl rfl rfl) rfl rfl rfl rfl ?_)
  refine dC rfl Try.func25 rfl rfl g4 rfl (by repeat (first | exact .refl _ | exact .tag _ _ | apply Le.ag | apply Les.cons | exact .nil)) rfl rfl ?_
  ((refine dY rfl (y_eqs rfl rfl) rfl rfl rfl rfl ?_); refine dY rfl (y_pick_t rfl rfl) rfl rfl rfl rfl ?_; refine dY rfl (y_assign rfl) rfl rfl rfl rfl ?_; refine dEnd ?_)
  repeat (refine ret_ ?_)
  ((apply fin_r); (repeat (first | exact .nil | exact .tmp rfl | apply ResL.cons)); (repeat (exact .refl _)))
end Go.Av
