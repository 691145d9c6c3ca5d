/- Contracts of functions that the laws on fractions reach, and the plain arithmetic behind them: no conditions beyond those in each statement. -/
import Derived.Test.YtnkkkeohhgbhnaaJ1
import Derived.ChangeKeysEq
import Derived.Shelf.SlSortCmp.WholeK
import Derived.Shelf.SlicesQ.Reverse
import Derived.Ground.SlsfProg
import Derived.KernelRfl
import Derived.Ground.SlgnProg
import Derived.Test.YtnkkkeohhgbhnaaJ0
set_option maxHeartbeats 8000000
set_option exponentiation.threshold 100000
set_option maxRecDepth 100000
set_option linter.unusedVariables false
set_option linter.unusedSimpArgs false
namespace Go.Av
open Go Go.Proofs

open Go.RowKit
/-! '==' at the program's structs of whole numbers. -/
theorem Teq28 : TEqI Try.prog 28 2 := by
  refine ⟨by kernel_rfl, fun xs ys w hx hy => ?_⟩
  have hS : Try.prog.underlying 28 = some (.struct (Try.prog.fieldsOf 28)) := by kernel_rfl
  have hp : Try.prog.stoodInHeld 28 = false := by kernel_rfl
  have u3 := Try.underlying3
  have a3 := Try.isAgg3
  have z3 := Try.sizeOf3
  rw [show (10000 : Nat) = 9999 + 1 from rfl, run_equalIn_agg w 9999 28 _ _ hS hp]
  simp only [Program.fieldsOf, Try.underlying28]
  match xs, ys, hx, hy with
  | [a, b], [c, d], _, _ =>
    simp only [nums, List.map_cons, List.map_nil]
    go_simp
    by_cases h1 : a = c <;> by_cases h2 : b = d <;> simp [h1, h2, eqI]
instance : TEqI Try.prog 28 2 := Teq28
theorem Teq103 : TEqI Try.prog 103 2 := by
  refine ⟨by kernel_rfl, fun xs ys w hx hy => ?_⟩
  have hS : Try.prog.underlying 103 = some (.struct (Try.prog.fieldsOf 103)) := by kernel_rfl
  have hp : Try.prog.stoodInHeld 103 = false := by kernel_rfl
  have u3 := Try.underlying3
  have a3 := Try.isAgg3
  have z3 := Try.sizeOf3
  rw [show (10000 : Nat) = 9999 + 1 from rfl, run_equalIn_agg w 9999 103 _ _ hS hp]
  simp only [Program.fieldsOf, Try.underlying103]
  match xs, ys, hx, hy with
  | [a, b], [c, d], _, _ =>
    simp only [nums, List.map_cons, List.map_nil]
    go_simp
    by_cases h1 : a = c <;> by_cases h2 : b = d <;> simp [h1, h2, eqI]
instance : TEqI Try.prog 103 2 := Teq103
theorem Teq36 : TEqI Try.prog 36 3 := by
  refine ⟨by kernel_rfl, fun xs ys w hx hy => ?_⟩
  have hS : Try.prog.underlying 36 = some (.struct (Try.prog.fieldsOf 36)) := by kernel_rfl
  have hp : Try.prog.stoodInHeld 36 = false := by kernel_rfl
  have u3 := Try.underlying3
  have a3 := Try.isAgg3
  have z3 := Try.sizeOf3
  rw [show (10000 : Nat) = 9999 + 1 from rfl, run_equalIn_agg w 9999 36 _ _ hS hp]
  simp only [Program.fieldsOf, Try.underlying36]
  match xs, ys, hx, hy with
  | [a, b, e], [c, d, f], _, _ =>
    simp only [nums, List.map_cons, List.map_nil]
    go_simp
    by_cases h1 : a = c <;> by_cases h2 : b = d <;> by_cases h3 : e = f <;> simp [h1, h2, h3, eqI]
instance : TEqI Try.prog 36 3 := Teq36
theorem Teq58 : TEqI Try.prog 58 4 := by
  refine ⟨by kernel_rfl, fun xs ys w hx hy => ?_⟩
  have hS : Try.prog.underlying 58 = some (.struct (Try.prog.fieldsOf 58)) := by kernel_rfl
  have hp : Try.prog.stoodInHeld 58 = false := by kernel_rfl
  have u3 := Try.underlying3
  have a3 := Try.isAgg3
  have z3 := Try.sizeOf3
  rw [show (10000 : Nat) = 9999 + 1 from rfl, run_equalIn_agg w 9999 58 _ _ hS hp]
  simp only [Program.fieldsOf, Try.underlying58]
  match xs, ys, hx, hy with
  | [a, b, e, g], [c, d, f, h], _, _ =>
    simp only [nums, List.map_cons, List.map_nil]
    go_simp
    by_cases h1 : a = c <;> by_cases h2 : b = d <;> by_cases h3 : e = f <;> by_cases h4 : g = h <;> simp [h1, h2, h3, h4, eqI]
instance : TEqI Try.prog 58 4 := Teq58
theorem Teq39 : TEqI Try.prog 39 6 := by
  refine ⟨by kernel_rfl, fun xs ys w hx hy => ?_⟩
  have hu : Try.prog.underlying 39 = some (.array 3 28) := by kernel_rfl
  have hs : (Try.prog.info? 28).isSome = true := by kernel_rfl
  obtain ⟨i, hi⟩ := Option.isSome_iff_exists.1 hs
  have hc : Try.prog.cellsOf 28 = 2 := by kernel_rfl
  have hz : ∀ w, (Go.sizeOf 28).run Try.prog w = .ok 2 w := Try.sizeOf28
  have ha : ∀ w, (isAgg 28).run Try.prog w = .ok true w := Try.isAgg28
  have key : ∀ (w : World) (a b c d : Int), (Op.equalIn 9999 28 (.agg #[.int .i64 a, .int .i64 b]) (.agg #[.int .i64 c, .int .i64 d])).run Try.prog w = .ok (eqI [a, b] [c, d]) w := by
    intro w a b c d
    have hS : Try.prog.underlying 28 = some (.struct (Try.prog.fieldsOf 28)) := by kernel_rfl
    have hp : Try.prog.stoodInHeld 28 = false := by kernel_rfl
    have u3 := Try.underlying3
    have a3 := Try.isAgg3
    have z3 := Try.sizeOf3
    rw [show (9999 : Nat) = 9998 + 1 from rfl, run_equalIn_agg w 9998 28 _ _ hS hp]
    simp only [Program.fieldsOf, Try.underlying28]
    go_simp
    by_cases h1 : a = c <;> by_cases h2 : b = d <;> simp [h1, h2, eqI]
  rw [show (10000 : Nat) = 9999 + 1 from rfl, run_equalIn_array w 9999 _ _ hu hi, hc]
  match xs, ys, hx, hy with
  | [a, b, c, d, e, f], [a', b', c', d', e', f'], _, _ =>
    simp only [nums, List.map_cons, List.map_nil, show List.range 3 = [0, 1, 2] from rfl, Op.eqItems]
    go_simp
    by_cases h1 : a = a' <;> by_cases h2 : b = b' <;> by_cases h3 : c = c' <;> by_cases h4 : d = d' <;> by_cases h5 : e = e' <;> by_cases h6 : f = f' <;> simp [h1, h2, h3, h4, h5, h6, eqI]
instance : TEqI Try.prog 39 6 := Teq39
end Go.Av

set_option maxHeartbeats 8000000
set_option exponentiation.threshold 100000
set_option maxRecDepth 100000
set_option linter.unusedVariables false
set_option linter.unusedSimpArgs false
namespace Go.Av
open Go Go.Proofs

open Go.RowKit
/-! Coordinates, cross products -/
def crossP (o a b : Pt) : Int := (a.1 - o.1) * (b.2 - o.2) - (a.2 - o.2) * (b.1 - o.1)
def farP (a b : Pt) : Int := (a.1 - b.1) * (a.1 - b.1) + (a.2 - b.2) * (a.2 - b.2)
abbrev sm (p : Pt) : Prop := (-16777216 ≤ p.1 ∧ p.1 ≤ 16777216) ∧ (-16777216 ≤ p.2 ∧ p.2 ≤ 16777216)
def smB (p : Pt) : Bool := decide (sm p)
def witR (l : List Pt) : Int := if l.all smB then 0 else 3
def chkR (l : List Pt) : Int := if 4096 < l.length then 4 else witR l
theorem noT_pts : ∀ l : List Pt, noTs (pts l) = true
  | [] => rfl
  | p :: l => by have := noT_pts l; simp only [pts] at this; simp [pts, noTs, noT, this]
theorem noT_ps (l : List Pt) : noTs [.ss false 2 (pts l)] = true := by simp [noTs, noT, noT_pts]
theorem mul_bd {x y : Int} (hx : -33554432 ≤ x ∧ x ≤ 33554432) (hy : -33554432 ≤ y ∧ y ≤ 33554432) : -1125899906842624 ≤ x * y ∧ x * y ≤ 1125899906842624 := by
  have h1 : x.natAbs ≤ 33554432 := by omega
  have h2 : y.natAbs ≤ 33554432 := by omega
  have h3 : x.natAbs * y.natAbs ≤ 33554432 * 33554432 := Nat.mul_le_mul h1 h2
  have h4 : (x * y).natAbs = x.natAbs * y.natAbs := Int.natAbs_mul x y
  omega
theorem at_all {l : List Pt} (h : l.all smB = true) {n : Int} (h0 : 0 ≤ n) (h1 : n < l.length) : sm (at_ l n) := by
  have hlt : n.toNat < l.length := by omega
  have := List.all_eq_true.1 h l[n.toNat] (List.getElem_mem hlt)
  simpa [at_, List.getD, hlt, smB] using this
theorem take_all {l : List Pt} {k : Nat} (h : (l.take k).all smB = true) (hk : k < l.length) (h1 : sm (at_ l k)) : (l.take (k + 1)).all smB = true := by
  rw [List.take_succ_eq_append_getElem hk, List.all_append, h, Bool.true_and]
  have : at_ l k = l[k] := by simp [at_, List.getD, hk]
  rw [this] at h1
  simpa [smB] using h1
theorem wit_no {l : List Pt} {k : Nat} (hk : k < l.length) (h1 : ¬ sm (at_ l k)) : witR l = 3 := by
  unfold witR
  rw [if_neg]
  intro h
  exact h1 (at_all h (by omega) (by omega))
theorem wit_yes {l : List Pt} {k : Nat} (h : (l.take k).all smB = true) (hk : l.length ≤ k) : witR l = 0 := by
  rw [List.take_of_length_le hk] at h
  unfold witR
  rw [if_pos h]

theorem cross_c (o a b : Pt) (ho : sm o) (ha : sm a) (hb : sm b) : Con Try.prog 34 [pt o, pt a, pt b] (I (crossP o a b)) := by
  refine con_of Try.func34 rfl rfl rfl rfl rfl ?_
  have b1 := mul_bd (x := a.1 - o.1) (y := b.2 - o.2) (by omega) (by omega)
  have b2 := mul_bd (x := a.2 - o.2) (y := b.1 - o.1) (by omega) (by omega)
  unfold crossP
  repeat (first | refine seq_ ?_ | refine region_ ?_ | refine nil_ ?_ | refine ret_ ?_ | refine stepY (y_assign rfl) rfl ?_ | refine stepY (y_load1 rfl rfl rfl) rfl ?_ | refine stepY (y_fieldAddr rfl) rfl ?_ | refine stepY (y_binn rfl rfl rfl (by simp only [InK, loK, hiK]; omega)) rfl ?_ | refine stepY (y_binn rfl rfl rfl (by simp only [InK, loK, hiK]; omega)) rfl ?_ | refine stepE (e_box rfl rfl rfl rfl rfl rfl) ?_)
  ((apply fin_r); (repeat (first | exact .nil | exact .tmp rfl | apply ResL.cons)); (repeat (exact .refl _)))
theorem Rcross_c (o a b : Pt) (ho : sm o) (ha : sm a) (hb : sm b) : Con Try.prog 40 [pt o, pt a, pt b] (I (crossP o a b)) := by
  refine con_of Try.func40 rfl rfl rfl rfl rfl ?_
  have b1 := mul_bd (x := a.1 - o.1) (y := b.2 - o.2) (by omega) (by omega)
  have b2 := mul_bd (x := a.2 - o.2) (y := b.1 - o.1) (by omega) (by omega)
  unfold crossP
  repeat (first | refine seq_ ?_ | refine region_ ?_ | refine nil_ ?_ | refine ret_ ?_ | refine stepY (y_assign rfl) rfl ?_ | refine stepY (y_load1 rfl rfl rfl) rfl ?_ | refine stepY (y_fieldAddr rfl) rfl ?_ | refine stepY (y_binn rfl rfl rfl (by simp only [InK, loK, hiK]; omega)) rfl ?_ | refine stepY (y_binn rfl rfl rfl (by simp only [InK, loK, hiK]; omega)) rfl ?_ | refine stepE (e_box rfl rfl rfl rfl rfl rfl) ?_)
  ((apply fin_r); (repeat (first | exact .nil | exact .tmp rfl | apply ResL.cons)); (repeat (exact .refl _)))
theorem square_c (a b : Pt) (ha : sm a) (hb : sm b) : Con Try.prog 43 [pt a, pt b] (I (farP a b)) := by
  refine con_of Try.func43 rfl rfl rfl rfl rfl ?_
  have b1 := mul_bd (x := a.1 - b.1) (y := a.1 - b.1) (by omega) (by omega)
  have b2 := mul_bd (x := a.2 - b.2) (y := a.2 - b.2) (by omega) (by omega)
  unfold farP
  repeat (first | refine seq_ ?_ | refine region_ ?_ | refine nil_ ?_ | refine ret_ ?_ | refine stepY (y_assign rfl) rfl ?_ | refine stepY (y_load1 rfl rfl rfl) rfl ?_ | refine stepY (y_fieldAddr rfl) rfl ?_ | refine stepY (y_binn rfl rfl rfl (by simp only [InK, loK, hiK]; omega)) rfl ?_ | refine stepY (y_binn rfl rfl rfl (by simp only [InK, loK, hiK]; omega)) rfl ?_ | refine stepY (y_binn rfl rfl rfl (by simp only [InK, loK, hiK]; omega)) rfl ?_ | refine stepE (e_box rfl rfl rfl rfl rfl rfl) ?_)
  ((apply fin_r); (repeat (first | exact .nil | exact .tmp rfl | apply ResL.cons)); (repeat (exact .refl _)))
theorem far_c (a b : Pt) (ha : sm a) (hb : sm b) : Con Try.prog 44 [pt a, pt b] (I (farP a b)) := by
  refine con_of Try.func44 rfl rfl rfl rfl rfl ?_
  have b1 := mul_bd (x := a.1 - b.1) (y := a.1 - b.1) (by omega) (by omega)
  have b2 := mul_bd (x := a.2 - b.2) (y := a.2 - b.2) (by omega) (by omega)
  unfold farP
  repeat (first | refine seq_ ?_ | refine region_ ?_ | refine nil_ ?_ | refine ret_ ?_ | refine stepY (y_assign rfl) rfl ?_ | refine stepY (y_load1 rfl rfl rfl) rfl ?_ | refine stepY (y_fieldAddr rfl) rfl ?_ | refine stepY (y_binn rfl rfl rfl (by simp only [InK, loK, hiK]; omega)) rfl ?_ | refine stepY (y_binn rfl rfl rfl (by simp only [InK, loK, hiK]; omega)) rfl ?_ | refine stepY (y_binn rfl rfl rfl (by simp only [InK, loK, hiK]; omega)) rfl ?_ | refine stepE (e_box rfl rfl rfl rfl rfl rfl) ?_)
  ((apply fin_r); (repeat (first | exact .nil | exact .tmp rfl | apply ResL.cons)); (repeat (exact .refl _)))
theorem within_c (l : List Pt) : Con Try.prog 35 [.ss false 2 (pts l)] (E_ (witR l)) := by
  refine con_of Try.func35 rfl rfl rfl (noT_ps l) rfl ?_
  refine len_Cs (i := 0) rfl (fun hL0 => ?_)
  have hL : l.length < 281474976710656 := by simpa using hL0
  repeat (first | refine seq_ ?_ | refine region_ ?_ | refine nil_ ?_ | refine block_ ?_ | refine stepY (y_move rfl) rfl ?_ | refine stepY (y_assign rfl) rfl ?_ | refine stepY (y_len_ps rfl) rfl ?_)
  refine loop_ (α := Nat) (fun k => ([(5, .p (.ss false 2 (pts l))), (6, .p (I l.length)), (7, .p (I k))], [])) (fun k => k ≤ l.length ∧ (l.take k).all smB = true) (fun k => l.length - k) 0 ⟨by omega, rfl⟩ ?_ ?_ ?_
  · (repeat (first | exact sub_nil | refine sub_cons rfl ?_))
  · (repeat (exact subH_nil))
  rintro k ⟨hk, ha⟩
  by_cases h : k < l.length
  · have h' : (k : Int) < l.length := by omega
    by_cases h1 : sm (at_ l k)
    · have ht := take_all ha h h1
      obtain ⟨⟨h2, h3⟩, h4, h5⟩ := h1
      repeat (first | refine seq_ ?_ | refine region_ ?_ | refine nil_ ?_ | refine skip_ ?_ | refine block_ ?_ | refine cond_t rfl ?_ | refine cond_f rfl ?_ | refine guard_t rfl rfl rfl ?_ | refine stepY (y_move rfl) rfl ?_ | (first | refine stepY (y_load1 rfl rfl rfl) rfl ?_ | refine stepY (y_load_rcA rfl rfl) rfl ?_) | refine stepY (y_fieldAddr rfl) rfl ?_ | refine stepY (y_pick_f rfl rfl) rfl ?_ | refine stepY (y_index_ps rfl rfl (by omega) (by omega)) rfl ?_ | refine stepY (y_binn rfl rfl rfl (by simp only [InK, loK, hiK]; omega)) rfl ?_ | (first | refine stepY (y_cmpT rfl rfl rfl (by omega)) rfl ?_ | refine stepY (y_cmpF rfl rfl rfl (by omega)) rfl ?_) | refine stepY (y_cmpF rfl rfl rfl (by omega)) rfl ?_ | refine stepE (e_alloc rfl rfl rfl) ?_ | refine stepE (e_store rfl rfl rfl rfl rfl rfl rfl) ?_)
      refine ⟨k + 1, ⟨by omega, ht⟩, by omega, ?_, ?_⟩
      · (repeat (first | exact sub_nil | refine sub_cons rfl ?_))
      · (repeat (exact subH_nil))
    · have e := wit_no h h1
      rw [e]
      by_cases c1 : (at_ l k).1 < -16777216
      · repeat (first | refine seq_ ?_ | refine region_ ?_ | refine nil_ ?_ | refine skip_ ?_ | refine ret_ ?_ | refine block_ ?_ | refine cond_t rfl ?_ | refine guard_f rfl rfl rfl rfl ?_ | refine stepY (y_move rfl) rfl ?_ | refine stepY (y_assign rfl) rfl ?_ | (first | refine stepY (y_load1 rfl rfl rfl) rfl ?_ | refine stepY (y_load_rcA rfl rfl) rfl ?_) | refine stepY (y_fieldAddr rfl) rfl ?_ | refine stepY (y_pick_t rfl rfl) rfl ?_ | refine stepY (y_index_ps rfl rfl (by omega) (by omega)) rfl ?_ | refine stepY (y_cmpT rfl rfl rfl (by omega)) rfl ?_ | refine stepE (e_alloc rfl rfl rfl) ?_ | refine stepE (e_store rfl rfl rfl rfl rfl rfl rfl) ?_)
        ((apply fin_r); (repeat (first | exact .nil | exact .tmp rfl | apply ResL.cons)); (repeat (exact .refl _)))
      · by_cases c2 : (at_ l k).1 > 16777216
        · repeat (first | refine seq_ ?_ | refine region_ ?_ | refine nil_ ?_ | refine skip_ ?_ | refine ret_ ?_ | refine block_ ?_ | refine cond_t rfl ?_ | refine guard_t rfl rfl rfl ?_ | refine guard_f rfl rfl rfl rfl ?_ | refine stepY (y_move rfl) rfl ?_ | refine stepY (y_assign rfl) rfl ?_ | (first | refine stepY (y_load1 rfl rfl rfl) rfl ?_ | refine stepY (y_load_rcA rfl rfl) rfl ?_) | refine stepY (y_fieldAddr rfl) rfl ?_ | (first | refine stepY (y_pick_t rfl rfl) rfl ?_ | refine stepY (y_pick_f rfl rfl) rfl ?_) | refine stepY (y_index_ps rfl rfl (by omega) (by omega)) rfl ?_ | (first | refine stepY (y_cmpT rfl rfl rfl (by omega)) rfl ?_ | refine stepY (y_cmpF rfl rfl rfl (by omega)) rfl ?_) | refine stepY (y_cmpT rfl rfl rfl (by omega)) rfl ?_ | refine stepE (e_alloc rfl rfl rfl) ?_ | refine stepE (e_store rfl rfl rfl rfl rfl rfl rfl) ?_)
          ((apply fin_r); (repeat (first | exact .nil | exact .tmp rfl | apply ResL.cons)); (repeat (exact .refl _)))
        · by_cases c3 : (at_ l k).2 < -16777216
          · repeat (first | refine seq_ ?_ | refine region_ ?_ | refine nil_ ?_ | refine skip_ ?_ | refine ret_ ?_ | refine block_ ?_ | refine cond_t rfl ?_ | refine guard_t rfl rfl rfl ?_ | refine guard_f rfl rfl rfl rfl ?_ | refine stepY (y_move rfl) rfl ?_ | refine stepY (y_assign rfl) rfl ?_ | (first | refine stepY (y_load1 rfl rfl rfl) rfl ?_ | refine stepY (y_load_rcA rfl rfl) rfl ?_) | refine stepY (y_fieldAddr rfl) rfl ?_ | (first | refine stepY (y_pick_t rfl rfl) rfl ?_ | refine stepY (y_pick_f rfl rfl) rfl ?_) | refine stepY (y_index_ps rfl rfl (by omega) (by omega)) rfl ?_ | (first | refine stepY (y_cmpT rfl rfl rfl (by omega)) rfl ?_ | refine stepY (y_cmpF rfl rfl rfl (by omega)) rfl ?_) | refine stepY (y_cmpF rfl rfl rfl (by omega)) rfl ?_ | refine stepE (e_alloc rfl rfl rfl) ?_ | refine stepE (e_store rfl rfl rfl rfl rfl rfl rfl) ?_)
            ((apply fin_r); (repeat (first | exact .nil | exact .tmp rfl | apply ResL.cons)); (repeat (exact .refl _)))
          · have c4 : (at_ l k).2 > 16777216 := by omega
            repeat (first | refine seq_ ?_ | refine region_ ?_ | refine nil_ ?_ | refine skip_ ?_ | refine ret_ ?_ | refine block_ ?_ | refine cond_t rfl ?_ | refine guard_t rfl rfl rfl ?_ | refine stepY (y_move rfl) rfl ?_ | refine stepY (y_assign rfl) rfl ?_ | (first | refine stepY (y_load1 rfl rfl rfl) rfl ?_ | refine stepY (y_load_rcA rfl rfl) rfl ?_) | refine stepY (y_fieldAddr rfl) rfl ?_ | refine stepY (y_pick_f rfl rfl) rfl ?_ | refine stepY (y_index_ps rfl rfl (by omega) (by omega)) rfl ?_ | (first | refine stepY (y_cmpT rfl rfl rfl (by omega)) rfl ?_ | refine stepY (y_cmpF rfl rfl rfl (by omega)) rfl ?_) | (first | refine stepY (y_cmpT rfl rfl rfl (by omega)) rfl ?_ | refine stepY (y_cmpF rfl rfl rfl (by omega)) rfl ?_) | refine stepE (e_alloc rfl rfl rfl) ?_ | refine stepE (e_store rfl rfl rfl rfl rfl rfl rfl) ?_)
            ((apply fin_r); (repeat (first | exact .nil | exact .tmp rfl | apply ResL.cons)); (repeat (exact .refl _)))
  · have e := wit_yes ha (by omega)
    rw [e]
    repeat (first | refine seq_ ?_ | refine region_ ?_ | refine nil_ ?_ | refine exit_ ?_ | refine ret_ ?_ | refine cond_f rfl ?_ | refine stepY (y_assign rfl) rfl ?_ | refine stepY (y_cmpF rfl rfl rfl (by omega)) rfl ?_)
    ((apply fin_r); (repeat (first | exact .nil | exact .tmp rfl | apply ResL.cons)); (repeat (exact .refl _)))
theorem check_c (l : List Pt) : Con Try.prog 32 [.ss false 2 (pts l)] (E_ (chkR l)) := by
  refine con_of Try.func32 rfl rfl rfl (noT_ps l) rfl ?_
  have hw := within_c l
  unfold chkR
  by_cases h : 4096 < l.length
  · rw [if_pos h]
    have h' : ((l.length : Nat) : Int) > 4096 := by omega
    repeat (first | refine seq_ ?_ | refine region_ ?_ | refine nil_ ?_ | refine ret_ ?_ | refine cond_t rfl ?_ | refine stepY (y_move rfl) rfl ?_ | refine stepY (y_assign rfl) rfl ?_ | refine stepY (y_len_ps rfl) rfl ?_ | refine stepY (y_cmpT rfl rfl rfl (by omega)) rfl ?_)
    ((apply fin_r); (repeat (first | exact .nil | exact .tmp rfl | apply ResL.cons)); (repeat (exact .refl _)))
  · rw [if_neg h]
    repeat (first | refine seq_ ?_ | refine region_ ?_ | refine nil_ ?_ | refine skip_ ?_ | refine cond_f rfl ?_ | refine stepY (y_move rfl) rfl ?_ | refine stepY (y_assign rfl) rfl ?_ | refine stepY (y_len_ps rfl) rfl ?_ | refine stepY (y_cmpF rfl rfl rfl (by omega)) rfl ?_)
    refine call_ Try.func35 rfl rfl (hw) rfl (by repeat (first | exact .refl _ | apply Les.cons | exact .nil)) rfl ?_
    repeat (first | refine nil_ ?_ | refine ret_ ?_ | refine stepY (y_assign rfl) rfl ?_)
    ((apply fin_r); (repeat (first | exact .nil | exact .tmp rfl | apply ResL.cons)); (repeat (exact .refl _)))
theorem right_c (l : List Pt) : Con Try.prog 39 [.ss false 2 (pts l)] (E_ (chkR l)) := by
  refine con_of Try.func39 rfl rfl rfl (noT_ps l) rfl ?_
  refine len_Cs (i := 0) rfl (fun hL0 => ?_)
  have hL : l.length < 281474976710656 := by simpa using hL0
  unfold chkR
  by_cases h : 4096 < l.length
  · rw [if_pos h]
    repeat (first | refine seq_ ?_ | refine region_ ?_ | refine nil_ ?_ | refine ret_ ?_ | refine cond_t rfl ?_ | refine stepY (y_move rfl) rfl ?_ | refine stepY (y_assign rfl) rfl ?_ | refine stepY (y_len_ps rfl) rfl ?_ | refine stepY (y_cmpT rfl rfl rfl (by omega)) rfl ?_)
    ((apply fin_r); (repeat (first | exact .nil | exact .tmp rfl | apply ResL.cons)); (repeat (exact .refl _)))
  rw [if_neg h]
  repeat (first | refine seq_ ?_ | refine region_ ?_ | refine nil_ ?_ | refine skip_ ?_ | refine block_ ?_ | refine cond_f rfl ?_ | refine stepY (y_move rfl) rfl ?_ | refine stepY (y_assign rfl) rfl ?_ | refine stepY (y_len_ps rfl) rfl ?_ | refine stepY (y_cmpF rfl rfl rfl (by omega)) rfl ?_)
  refine loop_ (α := Nat) (fun k => ([(0, .p (.ss false 2 (pts l))), (3, .p (I k))], [])) (fun k => k ≤ l.length ∧ (l.take k).all smB = true) (fun k => l.length - k) 0 ⟨by omega, rfl⟩ ?_ ?_ ?_
  · (repeat (first | exact sub_nil | refine sub_cons rfl ?_))
  · (repeat (exact subH_nil))
  rintro k ⟨hk, ha⟩
  by_cases h : k < l.length
  · have h' : (k : Int) < l.length := by omega
    by_cases h1 : sm (at_ l k)
    · have ht := take_all ha h h1
      obtain ⟨⟨h2, h3⟩, h4, h5⟩ := h1
      repeat (first | refine seq_ ?_ | refine region_ ?_ | refine nil_ ?_ | refine skip_ ?_ | refine block_ ?_ | refine cond_t rfl ?_ | refine cond_f rfl ?_ | refine guard_t rfl rfl rfl ?_ | refine stepY (y_move rfl) rfl ?_ | refine stepY (y_assign rfl) rfl ?_ | refine stepY (y_load_rc1 rfl rfl) rfl ?_ | refine stepY (y_fieldAddr_rc rfl rfl rfl) rfl ?_ | refine stepY (y_len_ps rfl) rfl ?_ | refine stepY (y_pick_f rfl rfl) rfl ?_ | refine stepY (y_index_ps rfl rfl (by omega) (by omega)) rfl ?_ | refine stepY (y_binn rfl rfl rfl (by simp only [InK, loK, hiK]; omega)) rfl ?_ | (first | refine stepY (y_cmpT rfl rfl rfl (by omega)) rfl ?_ | refine stepY (y_cmpF rfl rfl rfl (by omega)) rfl ?_) | refine stepY (y_cmpF rfl rfl rfl (by omega)) rfl ?_)
      refine ⟨k + 1, ⟨by omega, ht⟩, by omega, ?_, ?_⟩
      · (repeat (first | exact sub_nil | refine sub_cons rfl ?_))
      · (repeat (exact subH_nil))
    · have e := wit_no h h1
      rw [e]
      by_cases c1 : (at_ l k).1 < -16777216
      · repeat (first | refine seq_ ?_ | refine region_ ?_ | refine nil_ ?_ | refine skip_ ?_ | refine ret_ ?_ | refine block_ ?_ | refine cond_t rfl ?_ | refine guard_f rfl rfl rfl rfl ?_ | refine stepY (y_move rfl) rfl ?_ | refine stepY (y_assign rfl) rfl ?_ | refine stepY (y_load_rc1 rfl rfl) rfl ?_ | refine stepY (y_fieldAddr_rc rfl rfl rfl) rfl ?_ | refine stepY (y_len_ps rfl) rfl ?_ | refine stepY (y_pick_t rfl rfl) rfl ?_ | refine stepY (y_index_ps rfl rfl (by omega) (by omega)) rfl ?_ | refine stepY (y_cmpT rfl rfl rfl (by omega)) rfl ?_)
        ((apply fin_r); (repeat (first | exact .nil | exact .tmp rfl | apply ResL.cons)); (repeat (exact .refl _)))
      · by_cases c2 : (at_ l k).1 > 16777216
        · repeat (first | refine seq_ ?_ | refine region_ ?_ | refine nil_ ?_ | refine skip_ ?_ | refine ret_ ?_ | refine block_ ?_ | refine cond_t rfl ?_ | refine guard_t rfl rfl rfl ?_ | refine guard_f rfl rfl rfl rfl ?_ | refine stepY (y_move rfl) rfl ?_ | refine stepY (y_assign rfl) rfl ?_ | refine stepY (y_load_rc1 rfl rfl) rfl ?_ | refine stepY (y_fieldAddr_rc rfl rfl rfl) rfl ?_ | refine stepY (y_len_ps rfl) rfl ?_ | (first | refine stepY (y_pick_t rfl rfl) rfl ?_ | refine stepY (y_pick_f rfl rfl) rfl ?_) | refine stepY (y_index_ps rfl rfl (by omega) (by omega)) rfl ?_ | (first | refine stepY (y_cmpT rfl rfl rfl (by omega)) rfl ?_ | refine stepY (y_cmpF rfl rfl rfl (by omega)) rfl ?_) | refine stepY (y_cmpT rfl rfl rfl (by omega)) rfl ?_)
          ((apply fin_r); (repeat (first | exact .nil | exact .tmp rfl | apply ResL.cons)); (repeat (exact .refl _)))
        · by_cases c3 : (at_ l k).2 < -16777216
          · repeat (first | refine seq_ ?_ | refine region_ ?_ | refine nil_ ?_ | refine skip_ ?_ | refine ret_ ?_ | refine block_ ?_ | refine cond_t rfl ?_ | refine guard_t rfl rfl rfl ?_ | refine guard_f rfl rfl rfl rfl ?_ | refine stepY (y_move rfl) rfl ?_ | refine stepY (y_assign rfl) rfl ?_ | refine stepY (y_load_rc1 rfl rfl) rfl ?_ | refine stepY (y_fieldAddr_rc rfl rfl rfl) rfl ?_ | refine stepY (y_len_ps rfl) rfl ?_ | (first | refine stepY (y_pick_t rfl rfl) rfl ?_ | refine stepY (y_pick_f rfl rfl) rfl ?_) | refine stepY (y_index_ps rfl rfl (by omega) (by omega)) rfl ?_ | (first | refine stepY (y_cmpT rfl rfl rfl (by omega)) rfl ?_ | refine stepY (y_cmpF rfl rfl rfl (by omega)) rfl ?_) | refine stepY (y_cmpF rfl rfl rfl (by omega)) rfl ?_)
            ((apply fin_r); (repeat (first | exact .nil | exact .tmp rfl | apply ResL.cons)); (repeat (exact .refl _)))
          · have c4 : (at_ l k).2 > 16777216 := by omega
            repeat (first | refine seq_ ?_ | refine region_ ?_ | refine nil_ ?_ | refine skip_ ?_ | refine ret_ ?_ | refine block_ ?_ | refine cond_t rfl ?_ | refine guard_t rfl rfl rfl ?_ | refine stepY (y_move rfl) rfl ?_ | refine stepY (y_assign rfl) rfl ?_ | refine stepY (y_load_rc1 rfl rfl) rfl ?_ | refine stepY (y_fieldAddr_rc rfl rfl rfl) rfl ?_ | refine stepY (y_len_ps rfl) rfl ?_ | refine stepY (y_pick_f rfl rfl) rfl ?_ | refine stepY (y_index_ps rfl rfl (by omega) (by omega)) rfl ?_ | (first | refine stepY (y_cmpT rfl rfl rfl (by omega)) rfl ?_ | refine stepY (y_cmpF rfl rfl rfl (by omega)) rfl ?_) | (first | refine stepY (y_cmpT rfl rfl rfl (by omega)) rfl ?_ | refine stepY (y_cmpF rfl rfl rfl (by omega)) rfl ?_))
            ((apply fin_r); (repeat (first | exact .nil | exact .tmp rfl | apply ResL.cons)); (repeat (exact .refl _)))
  · have e := wit_yes ha (by omega)
    rw [e]
    repeat (first | refine seq_ ?_ | refine region_ ?_ | refine nil_ ?_ | refine exit_ ?_ | refine ret_ ?_ | refine cond_f rfl ?_ | refine stepY (y_move rfl) rfl ?_ | refine stepY (y_assign rfl) rfl ?_ | refine stepY (y_len_ps rfl) rfl ?_ | refine stepY (y_cmpF rfl rfl rfl (by omega)) rfl ?_)
    ((apply fin_r); (repeat (first | exact .nil | exact .tmp rfl | apply ResL.cons)); (repeat (exact .refl _)))
end Go.Av

set_option maxHeartbeats 8000000
set_option exponentiation.threshold 100000
set_option maxRecDepth 100000
set_option linter.unusedVariables false
set_option linter.unusedSimpArgs false
namespace Go.Av
open Go Go.Proofs

open Go.RowKit
/-! The greatest common divisor, the line through two points -/
theorem gcd_step (a b : Int) : Int.gcd b (a.tmod b) = Int.gcd a b := by
  show Nat.gcd b.natAbs (a.tmod b).natAbs = Nat.gcd a.natAbs b.natAbs
  rw [Int.natAbs_tmod, Nat.gcd_comm a.natAbs, Nat.gcd_rec b.natAbs a.natAbs, Nat.gcd_comm]
theorem gcd_zero (a : Int) : ((Int.gcd a 0 : Nat) : Int) = a.natAbs := by
  show ((Nat.gcd a.natAbs 0 : Nat) : Int) = _
  rw [Nat.gcd_zero_right]
theorem tmod_lt {a b : Int} (h : b ≠ 0) : (a.tmod b).natAbs < b.natAbs := by
  rw [Int.natAbs_tmod]
  exact Nat.mod_lt _ (by omega)
theorem tdiv_bd {x : Int} (g : Int) (hx : -33554432 ≤ x ∧ x ≤ 33554432) : -33554432 ≤ x.tdiv g ∧ x.tdiv g ≤ 33554432 := by
  have := Int.natAbs_tdiv_le_natAbs x g
  omega
abbrev ib (x : Int) : Prop := -33554432 ≤ x ∧ x ≤ 33554432
theorem gcd_c (a b : Int) (ha : ib a) (hb : ib b) : Con Try.prog 41 [I a, I b] (I (Int.gcd a b : Nat)) := by
  refine con_of Try.func41 rfl rfl rfl rfl rfl ?_
  repeat (first | refine seq_ ?_ | refine region_ ?_ | refine nil_ ?_ | refine block_ ?_ | refine stepY (y_assign rfl) rfl ?_)
  refine loop_ (α := Int × Int) (fun s => ([(0, .p (I s.1)), (1, .p (I s.2))], [])) (fun s => ib s.1 ∧ ib s.2 ∧ Int.gcd s.1 s.2 = Int.gcd a b) (fun s => s.2.natAbs) (a, b) ⟨ha, hb, rfl⟩ ?_ ?_ ?_
  · (repeat (first | exact sub_nil | refine sub_cons rfl ?_))
  · (repeat (exact subH_nil))
  rintro ⟨x, y⟩ ⟨hx, hy, hg⟩
  dsimp only at hx hy hg ⊢
  by_cases h : y = 0
  · rw [← hg, h, gcd_zero]
    rw [show ((x.natAbs : Nat) : Int) = if x < -x then -x else x by split <;> omega]
    repeat (first | refine seq_ ?_ | refine region_ ?_ | refine nil_ ?_ | refine exit_ ?_ | refine ret_ ?_ | refine cond_f rfl ?_ | refine stepY (y_move rfl) rfl ?_ | refine stepY (y_assign rfl) rfl ?_ | refine stepY (y_max rfl rfl) rfl ?_ | refine stepY (y_negn rfl (by simp only [InK, loK, hiK]; omega)) rfl ?_ | refine stepY (y_cmpF rfl rfl rfl (by omega)) rfl ?_)
    ((apply fin_r); (repeat (first | exact .nil | exact .tmp rfl | apply ResL.cons)); (repeat (exact .refl _)))
  · have h1 := tmod_lt (a := x) h
    have h2 := gcd_step x y
    repeat (first | refine seq_ ?_ | refine region_ ?_ | refine nil_ ?_ | refine skip_ ?_ | refine block_ ?_ | refine cond_t rfl ?_ | refine stepY (y_move rfl) rfl ?_ | refine stepY (y_cmpT rfl rfl rfl (by omega)) rfl ?_)
    refine draw_ [(0, true), (1, true), (2, true), (3, true), (4, true), (5, true)] 1000 [] mixed (by kernel_rfl) rfl ?_
    ((refine dY rfl (y_move rfl) rfl rfl rfl rfl ?_); refine dY rfl (y_move rfl) rfl rfl rfl rfl ?_; refine dY rfl (y_move rfl) rfl rfl rfl rfl ?_; refine dY rfl (y_rem rfl rfl (by omega)) rfl rfl rfl rfl ?_; refine dY rfl (y_assign rfl) rfl rfl rfl rfl ?_; refine dY rfl (y_assign rfl) rfl rfl rfl rfl ?_; refine dEnd ?_)
    refine ⟨(y, x.tmod y), ⟨hy, by dsimp only; omega, h2.trans hg⟩, h1, ?_, ?_⟩
    · (repeat (first | exact sub_nil | refine sub_cons rfl ?_))
    · (repeat (exact subH_nil))
theorem divisor_c (a b : Int) (ha : ib a) (hb : ib b) : Con Try.prog 42 [I a, I b] (I (Int.gcd a b : Nat)) := by
  refine con_of Try.func42 rfl rfl rfl rfl rfl ?_
  repeat (first | refine seq_ ?_ | refine region_ ?_ | refine nil_ ?_ | refine block_ ?_ | refine stepY (y_move rfl) rfl ?_ | refine stepY (y_assign rfl) rfl ?_ | refine stepY (y_max rfl rfl) rfl ?_ | refine stepY (y_negn rfl (by simp only [InK, loK, hiK]; omega)) rfl ?_)
  rw [show (if a < -a then -a else a) = ((a.natAbs : Nat) : Int) by split <;> omega, show (if b < -b then -b else b) = ((b.natAbs : Nat) : Int) by split <;> omega]
  refine loop_ (α := Nat × Nat) (fun s => ([(0, .p (I s.1)), (1, .p (I s.2))], [])) (fun s => s.1 ≤ 33554432 ∧ s.2 ≤ 33554432 ∧ Nat.gcd s.1 s.2 = Int.gcd a b) (fun s => s.2) (a.natAbs, b.natAbs) ⟨by dsimp only; omega, by dsimp only; omega, rfl⟩ ?_ ?_ ?_
  · (repeat (first | exact sub_nil | refine sub_cons rfl ?_))
  · (repeat (exact subH_nil))
  rintro ⟨x, y⟩ ⟨hx, hy, hg⟩
  dsimp only at hx hy hg ⊢
  by_cases h : y = 0
  · rw [← hg, h, Nat.gcd_zero_right]
    repeat (first | refine seq_ ?_ | refine region_ ?_ | refine nil_ ?_ | refine exit_ ?_ | refine ret_ ?_ | refine cond_f rfl ?_ | refine stepY (y_move rfl) rfl ?_ | refine stepY (y_assign rfl) rfl ?_ | refine stepY (y_cmpF rfl rfl rfl (by omega)) rfl ?_)
    ((apply fin_r); (repeat (first | exact .nil | exact .tmp rfl | apply ResL.cons)); (repeat (exact .refl _)))
  · have h1 : x % y < y := Nat.mod_lt _ (by omega)
    have h2 : Nat.gcd y (x % y) = Nat.gcd x y := by rw [Nat.gcd_comm x y, Nat.gcd_rec y x, Nat.gcd_comm]
    have h3 : ((x : Int) % (y : Int)) = ((x % y : Nat) : Int) := by simp
    repeat (first | refine seq_ ?_ | refine region_ ?_ | refine nil_ ?_ | refine skip_ ?_ | refine block_ ?_ | refine cond_t rfl ?_ | refine stepY (y_move rfl) rfl ?_ | refine stepY (y_cmpT rfl rfl rfl (by omega)) rfl ?_)
    refine draw_ [(0, true), (1, true), (2, true), (3, true), (4, true), (5, true)] 1000 [] mixed (by kernel_rfl) rfl ?_
    ((refine dY rfl (y_move rfl) rfl rfl rfl rfl ?_); refine dY rfl (y_move rfl) rfl rfl rfl rfl ?_; refine dY rfl (y_move rfl) rfl rfl rfl rfl ?_; refine dY rfl (y_remp rfl rfl (by omega) (by omega)) rfl rfl rfl rfl ?_; refine dY rfl (y_assign rfl) rfl rfl rfl rfl ?_; refine dY rfl (y_assign rfl) rfl rfl rfl rfl ?_; refine dEnd ?_)
    rw [h3]
    refine ⟨(y, x % y), ⟨hy, by dsimp only; omega, h2.trans hg⟩, h1, ?_, ?_⟩
    · (repeat (first | exact sub_nil | refine sub_cons rfl ?_))
    · (repeat (exact subH_nil))
theorem chk2 (a b : Pt) : chkR [a, b] = if sm a ∧ sm b then 0 else 3 := by
  simp only [chkR, witR, smB, List.length_cons, List.length_nil, List.all_cons, List.all_nil, Bool.and_true]
  rw [if_neg (by omega)]
  simp only [Bool.and_eq_true, decide_eq_true_eq]
theorem chk3 (a b c : Pt) : chkR [a, b, c] = if sm a ∧ sm b ∧ sm c then 0 else 3 := by
  simp only [chkR, witR, smB, List.length_cons, List.length_nil, List.all_cons, List.all_nil, Bool.and_true]
  rw [if_neg (by omega)]
  simp only [Bool.and_eq_true, decide_eq_true_eq]
/-- The line through two points: its sign, its three numbers. -/
def thG (a b : Pt) : Int := if b.2 - a.2 < 0 ∨ b.2 - a.2 = 0 ∧ a.1 - b.1 < 0 then -((Int.gcd (b.2 - a.2) (a.1 - b.1) : Nat) : Int) else ((Int.gcd (b.2 - a.2) (a.1 - b.1) : Nat) : Int)
def thA (a b : Pt) : Int := (b.2 - a.2).tdiv (thG a b)
def thB (a b : Pt) : Int := (a.1 - b.1).tdiv (thG a b)
def thC (a b : Pt) : Int := thA a b * a.1 + thB a b * a.2
abbrev lnP (l : Int × Int × Int) : PV := .ag [I l.1, I l.2.1, I l.2.2]
def thR (a b : Pt) : (Int × Int × Int) × Int := if ¬ (sm a ∧ sm b) then ((0, 0, 0), 3) else if a = b then ((0, 0, 0), 24) else ((thA a b, thB a b, thC a b), 0)
theorem thG_ne {a b : Pt} (h : a ≠ b) : ((Int.gcd (b.2 - a.2) (a.1 - b.1) : Nat) : Int) ≠ 0 := by
  intro h0
  have h1 := Int.gcd_eq_zero_iff.1 (Int.ofNat.inj h0)
  exact h (Prod.ext (by omega) (by omega))
theorem Through_c (a b : Pt) : Con Try.prog 15 [pt a, pt b] (.tp [lnP (thR a b).1, E_ (thR a b).2]) := by
  unfold thR
  by_cases hs : sm a ∧ sm b
  · rw [if_neg (not_not_intro hs)]
    have hc := check_c [a, b]
    rw [chk2, if_pos hs] at hc
    obtain ⟨ha, hb⟩ := hs
    by_cases hab : a = b
    · rw [if_pos hab]
      have he : eqI [a.1, a.2] [b.1, b.2] = true := by rw [hab]; simp [eqI]
      refine con_of Try.func15 rfl rfl rfl rfl rfl ?_
      repeat (first | refine seq_ ?_ | refine region_ ?_ | refine nil_ ?_ | refine stepY (y_assign rfl) rfl ?_ | refine stepY (y_loadA rfl rfl rfl) rfl ?_ | refine stepE (e_box rfl rfl rfl rfl rfl rfl) ?_ | refine stepE (e_alloc rfl rfl rfl) ?_ | refine stepE (e_bs_vs rfl rfl rfl rfl rfl rfl) ?_)
      refine seal_Ls (i := 12) (h := 12) rfl rfl rfl rfl ?_
      refine call_ Try.func32 rfl rfl (hc) rfl (by repeat (first | exact .tags _ _ | apply Les.cons | exact .nil)) rfl ?_
      repeat (first | refine seq_ ?_ | refine region_ ?_ | refine nil_ ?_ | refine skip_ ?_ | refine ret_ ?_ | refine cond_t rfl ?_ | refine cond_f rfl ?_ | refine stepY (y_move rfl) rfl ?_ | refine stepY (y_assign rfl) rfl ?_ | refine stepY (y_loadA rfl rfl rfl) rfl ?_ | refine stepY (y_build rfl rfl rfl) rfl ?_ | refine stepY (y_eqI rfl rfl rfl rfl rfl rfl (by assumption)) rfl ?_ | refine stepY (y_cmpF rfl rfl rfl (by omega)) rfl ?_ | refine stepE (e_store rfl rfl rfl rfl rfl rfl rfl) ?_)
      ((apply fin_r); (repeat (first | exact .nil | exact .tmp rfl | exact .agg rfl rfl rfl | apply ResL.cons)); (repeat (exact .refl _)))
    · rw [if_neg hab]
      have he : eqI [a.1, a.2] [b.1, b.2] = false := by
        unfold eqI
        refine decide_eq_false (fun h => hab ?_)
        simp only [List.cons.injEq, and_true] at h
        exact Prod.ext h.1 h.2
      have hg := gcd_c (b.2 - a.2) (a.1 - b.1) (by unfold ib; omega) (by unfold ib; omega)
      have hg0 := thG_ne hab
      have hgb : ((Int.gcd (b.2 - a.2) (a.1 - b.1) : Nat) : Int) ≤ 33554432 := by
        rcases Nat.eq_zero_or_pos (b.2 - a.2).natAbs with h0 | h0
        · have : Int.gcd (b.2 - a.2) (a.1 - b.1) = (a.1 - b.1).natAbs := by
            show Nat.gcd (b.2 - a.2).natAbs (a.1 - b.1).natAbs = _
            rw [h0, Nat.gcd_zero_left]
          omega
        · have : Int.gcd (b.2 - a.2) (a.1 - b.1) ≤ (b.2 - a.2).natAbs := Nat.gcd_le_left _ h0
          omega
      unfold thC thA thB thG
      split
      · next hn =>
        have q1 := tdiv_bd (x := b.2 - a.2) (-((Int.gcd (b.2 - a.2) (a.1 - b.1) : Nat) : Int)) (by omega)
        have q2 := tdiv_bd (x := a.1 - b.1) (-((Int.gcd (b.2 - a.2) (a.1 - b.1) : Nat) : Int)) (by omega)
        have q3 := mul_bd (y := a.1) q1 (by omega)
        have q4 := mul_bd (y := a.2) q2 (by omega)
        refine con_of Try.func15 rfl rfl rfl rfl rfl ?_
        by_cases hp : b.2 - a.2 < 0
        · repeat (first | refine seq_ ?_ | refine region_ ?_ | refine nil_ ?_ | refine stepY (y_assign rfl) rfl ?_ | refine stepY (y_loadA rfl rfl rfl) rfl ?_ | refine stepE (e_box rfl rfl rfl rfl rfl rfl) ?_ | refine stepE (e_alloc rfl rfl rfl) ?_ | refine stepE (e_bs_vs rfl rfl rfl rfl rfl rfl) ?_)
          refine seal_Ls (i := 12) (h := 12) rfl rfl rfl rfl ?_
          refine call_ Try.func32 rfl rfl (hc) rfl (by repeat (first | exact .tags _ _ | apply Les.cons | exact .nil)) rfl ?_
          repeat (first | refine seq_ ?_ | refine region_ ?_ | refine nil_ ?_ | refine skip_ ?_ | refine cond_f rfl ?_ | refine stepY (y_move rfl) rfl ?_ | refine stepY (y_assign rfl) rfl ?_ | refine stepY (y_loadA rfl rfl rfl) rfl ?_ | refine stepY (y_eqI rfl rfl rfl rfl rfl rfl (by assumption)) rfl ?_ | refine stepY (y_cmpF rfl rfl rfl (by omega)) rfl ?_)
          refine draw_ [(0, true), (1, true), (2, true), (3, true), (4, true), (5, true), (6, true), (7, true), (8, true), (9, true), (10, true), (11, true)] 1000 [2, 3, 4] mixed (by kernel_rfl) rfl ?_
          ((refine dY rfl (y_fieldAddr rfl) rfl rfl rfl rfl ?_); refine dY rfl (y_load1 rfl rfl rfl) rfl rfl rfl rfl ?_; refine dY rfl (y_fieldAddr rfl) rfl rfl rfl rfl ?_; refine dY rfl (y_load1 rfl rfl rfl) rfl rfl rfl rfl ?_; refine dY rfl (y_binn rfl rfl rfl (by simp only [InK, loK, hiK]; omega)) rfl rfl rfl rfl ?_; refine dY rfl (y_fieldAddr rfl) rfl rfl rfl rfl ?_; refine dY rfl (y_load1 rfl rfl rfl) rfl rfl rfl rfl ?_; refine dY rfl (y_fieldAddr rfl) rfl rfl rfl rfl ?_; refine dY rfl (y_load1 rfl rfl rfl) rfl rfl rfl rfl ?_; refine dY rfl (y_binn rfl rfl rfl (by simp only [InK, loK, hiK]; omega)) rfl rfl rfl rfl ?_; refine dY rfl (y_assign rfl) rfl rfl rfl rfl ?_; refine dY rfl (y_assign rfl) rfl rfl rfl rfl ?_; refine dEnd ?_)
          repeat (first | refine seq_ ?_ | refine region_ ?_ | refine stepY (y_move rfl) rfl ?_)
          refine call_ Try.func41 rfl rfl (hg) rfl (by repeat (first | exact .refl _ | apply Les.cons | exact .nil)) rfl ?_
          repeat (first | refine seq_ ?_ | refine region_ ?_ | refine nil_ ?_ | refine cond_t rfl ?_ | refine guard_f rfl rfl rfl rfl ?_ | refine guard_u rfl rfl rfl ?_ | refine stepY (y_move rfl) rfl ?_ | refine stepY (y_assign rfl) rfl ?_ | refine stepY (y_negn rfl (by simp only [InK, loK, hiK]; omega)) rfl ?_ | refine stepY (y_pick_t rfl rfl) rfl ?_ | refine stepY (y_cmpT rfl rfl rfl (by omega)) rfl ?_)
          refine draw_ [(0, true), (1, true), (2, true), (3, true), (4, true), (5, true), (6, true), (7, true)] 1000 [2, 3, 4] mixed (by kernel_rfl) rfl ?_
          ((refine dY rfl (y_move rfl) rfl rfl rfl rfl ?_); refine dY rfl (y_move rfl) rfl rfl rfl rfl ?_; refine dY rfl (y_quon rfl rfl (by omega) (by simp only [InK, loK, hiK]; omega)) rfl rfl rfl rfl ?_; refine dY rfl (y_move rfl) rfl rfl rfl rfl ?_; refine dY rfl (y_move rfl) rfl rfl rfl rfl ?_; refine dY rfl (y_quon rfl rfl (by omega) (by simp only [InK, loK, hiK]; omega)) rfl rfl rfl rfl ?_; refine dY rfl (y_assign rfl) rfl rfl rfl rfl ?_; refine dY rfl (y_assign rfl) rfl rfl rfl rfl ?_; refine dEnd ?_)
          repeat (first | refine seq_ ?_ | refine region_ ?_ | refine nil_ ?_ | refine ret_ ?_ | refine stepY (y_move rfl) rfl ?_ | refine stepY (y_assign rfl) rfl ?_ | refine stepY (y_load1 rfl rfl rfl) rfl ?_ | refine stepY (y_fieldAddr rfl) rfl ?_ | refine stepY (y_build rfl rfl rfl) rfl ?_ | refine stepY (y_binn rfl rfl rfl (by simp only [InK, loK, hiK]; omega)) rfl ?_ | refine stepY (y_binn rfl rfl rfl (by simp only [InK, loK, hiK]; omega)) rfl ?_ | refine stepE (e_store rfl rfl rfl rfl rfl rfl rfl) ?_)
          ((apply fin_r); (repeat (first | exact .nil | exact .tmp rfl | exact .agg rfl rfl rfl | apply ResL.cons)); (repeat (exact .refl _)))
        · have hp2 : b.2 - a.2 = 0 := by omega
          have hp3 : a.1 - b.1 < 0 := by omega
          repeat (first | refine seq_ ?_ | refine region_ ?_ | refine nil_ ?_ | refine stepY (y_assign rfl) rfl ?_ | refine stepY (y_loadA rfl rfl rfl) rfl ?_ | refine stepE (e_box rfl rfl rfl rfl rfl rfl) ?_ | refine stepE (e_alloc rfl rfl rfl) ?_ | refine stepE (e_bs_vs rfl rfl rfl rfl rfl rfl) ?_)
          refine seal_Ls (i := 12) (h := 12) rfl rfl rfl rfl ?_
          refine call_ Try.func32 rfl rfl (hc) rfl (by repeat (first | exact .tags _ _ | apply Les.cons | exact .nil)) rfl ?_
          repeat (first | refine seq_ ?_ | refine region_ ?_ | refine nil_ ?_ | refine skip_ ?_ | refine cond_f rfl ?_ | refine stepY (y_move rfl) rfl ?_ | refine stepY (y_assign rfl) rfl ?_ | refine stepY (y_loadA rfl rfl rfl) rfl ?_ | refine stepY (y_eqI rfl rfl rfl rfl rfl rfl (by assumption)) rfl ?_ | refine stepY (y_cmpF rfl rfl rfl (by omega)) rfl ?_)
          refine draw_ [(0, true), (1, true), (2, true), (3, true), (4, true), (5, true), (6, true), (7, true), (8, true), (9, true), (10, true), (11, true)] 1000 [2, 3, 4] mixed (by kernel_rfl) rfl ?_
          ((refine dY rfl (y_fieldAddr rfl) rfl rfl rfl rfl ?_); refine dY rfl (y_load1 rfl rfl rfl) rfl rfl rfl rfl ?_; refine dY rfl (y_fieldAddr rfl) rfl rfl rfl rfl ?_; refine dY rfl (y_load1 rfl rfl rfl) rfl rfl rfl rfl ?_; refine dY rfl (y_binn rfl rfl rfl (by simp only [InK, loK, hiK]; omega)) rfl rfl rfl rfl ?_; refine dY rfl (y_fieldAddr rfl) rfl rfl rfl rfl ?_; refine dY rfl (y_load1 rfl rfl rfl) rfl rfl rfl rfl ?_; refine dY rfl (y_fieldAddr rfl) rfl rfl rfl rfl ?_; refine dY rfl (y_load1 rfl rfl rfl) rfl rfl rfl rfl ?_; refine dY rfl (y_binn rfl rfl rfl (by simp only [InK, loK, hiK]; omega)) rfl rfl rfl rfl ?_; refine dY rfl (y_assign rfl) rfl rfl rfl rfl ?_; refine dY rfl (y_assign rfl) rfl rfl rfl rfl ?_; refine dEnd ?_)
          repeat (first | refine seq_ ?_ | refine region_ ?_ | refine stepY (y_move rfl) rfl ?_)
          refine call_ Try.func41 rfl rfl (hg) rfl (by repeat (first | exact .refl _ | apply Les.cons | exact .nil)) rfl ?_
          repeat (first | refine seq_ ?_ | refine region_ ?_ | refine nil_ ?_ | refine cond_t rfl ?_ | refine guard_t rfl rfl rfl ?_ | refine stepY (y_move rfl) rfl ?_ | refine stepY (y_assign rfl) rfl ?_ | refine stepY (y_negn rfl (by simp only [InK, loK, hiK]; omega)) rfl ?_ | (first | refine stepY (y_pick_t rfl rfl) rfl ?_ | refine stepY (y_pick_f rfl rfl) rfl ?_) | refine stepY (y_cmpT rfl rfl rfl (by omega)) rfl ?_ | (first | refine stepY (y_cmpT rfl rfl rfl (by omega)) rfl ?_ | refine stepY (y_cmpF rfl rfl rfl (by omega)) rfl ?_))
          refine draw_ [(0, true), (1, true), (2, true), (3, true), (4, true), (5, true), (6, true), (7, true)] 1000 [2, 3, 4] mixed (by kernel_rfl) rfl ?_
          ((refine dY rfl (y_move rfl) rfl rfl rfl rfl ?_); refine dY rfl (y_move rfl) rfl rfl rfl rfl ?_; refine dY rfl (y_quon rfl rfl (by omega) (by simp only [InK, loK, hiK]; omega)) rfl rfl rfl rfl ?_; refine dY rfl (y_move rfl) rfl rfl rfl rfl ?_; refine dY rfl (y_move rfl) rfl rfl rfl rfl ?_; refine dY rfl (y_quon rfl rfl (by omega) (by simp only [InK, loK, hiK]; omega)) rfl rfl rfl rfl ?_; refine dY rfl (y_assign rfl) rfl rfl rfl rfl ?_; refine dY rfl (y_assign rfl) rfl rfl rfl rfl ?_; refine dEnd ?_)
          repeat (first | refine seq_ ?_ | refine region_ ?_ | refine nil_ ?_ | refine ret_ ?_ | refine stepY (y_move rfl) rfl ?_ | refine stepY (y_assign rfl) rfl ?_ | refine stepY (y_load1 rfl rfl rfl) rfl ?_ | refine stepY (y_fieldAddr rfl) rfl ?_ | refine stepY (y_build rfl rfl rfl) rfl ?_ | refine stepY (y_binn rfl rfl rfl (by simp only [InK, loK, hiK]; omega)) rfl ?_ | refine stepY (y_binn rfl rfl rfl (by simp only [InK, loK, hiK]; omega)) rfl ?_ | refine stepE (e_store rfl rfl rfl rfl rfl rfl rfl) ?_)
          ((apply fin_r); (repeat (first | exact .nil | exact .tmp rfl | exact .agg rfl rfl rfl | apply ResL.cons)); (repeat (exact .refl _)))
      · next hn =>
        have q1 := tdiv_bd (x := b.2 - a.2) (((Int.gcd (b.2 - a.2) (a.1 - b.1) : Nat) : Int)) (by omega)
        have q2 := tdiv_bd (x := a.1 - b.1) (((Int.gcd (b.2 - a.2) (a.1 - b.1) : Nat) : Int)) (by omega)
        have q3 := mul_bd (y := a.1) q1 (by omega)
        have q4 := mul_bd (y := a.2) q2 (by omega)
        refine con_of Try.func15 rfl rfl rfl rfl rfl ?_
        by_cases hp2 : b.2 - a.2 = 0
        · repeat (first | refine seq_ ?_ | refine region_ ?_ | refine nil_ ?_ | refine stepY (y_assign rfl) rfl ?_ | refine stepY (y_loadA rfl rfl rfl) rfl ?_ | refine stepE (e_box rfl rfl rfl rfl rfl rfl) ?_ | refine stepE (e_alloc rfl rfl rfl) ?_ | refine stepE (e_bs_vs rfl rfl rfl rfl rfl rfl) ?_)
          refine seal_Ls (i := 12) (h := 12) rfl rfl rfl rfl ?_
          refine call_ Try.func32 rfl rfl (hc) rfl (by repeat (first | exact .tags _ _ | apply Les.cons | exact .nil)) rfl ?_
          repeat (first | refine seq_ ?_ | refine region_ ?_ | refine nil_ ?_ | refine skip_ ?_ | refine cond_f rfl ?_ | refine stepY (y_move rfl) rfl ?_ | refine stepY (y_assign rfl) rfl ?_ | refine stepY (y_loadA rfl rfl rfl) rfl ?_ | refine stepY (y_eqI rfl rfl rfl rfl rfl rfl (by assumption)) rfl ?_ | refine stepY (y_cmpF rfl rfl rfl (by omega)) rfl ?_)
          refine draw_ [(0, true), (1, true), (2, true), (3, true), (4, true), (5, true), (6, true), (7, true), (8, true), (9, true), (10, true), (11, true)] 1000 [2, 3, 4] mixed (by kernel_rfl) rfl ?_
          ((refine dY rfl (y_fieldAddr rfl) rfl rfl rfl rfl ?_); refine dY rfl (y_load1 rfl rfl rfl) rfl rfl rfl rfl ?_; refine dY rfl (y_fieldAddr rfl) rfl rfl rfl rfl ?_; refine dY rfl (y_load1 rfl rfl rfl) rfl rfl rfl rfl ?_; refine dY rfl (y_binn rfl rfl rfl (by simp only [InK, loK, hiK]; omega)) rfl rfl rfl rfl ?_; refine dY rfl (y_fieldAddr rfl) rfl rfl rfl rfl ?_; refine dY rfl (y_load1 rfl rfl rfl) rfl rfl rfl rfl ?_; refine dY rfl (y_fieldAddr rfl) rfl rfl rfl rfl ?_; refine dY rfl (y_load1 rfl rfl rfl) rfl rfl rfl rfl ?_; refine dY rfl (y_binn rfl rfl rfl (by simp only [InK, loK, hiK]; omega)) rfl rfl rfl rfl ?_; refine dY rfl (y_assign rfl) rfl rfl rfl rfl ?_; refine dY rfl (y_assign rfl) rfl rfl rfl rfl ?_; refine dEnd ?_)
          repeat (first | refine seq_ ?_ | refine region_ ?_ | refine stepY (y_move rfl) rfl ?_)
          refine call_ Try.func41 rfl rfl (hg) rfl (by repeat (first | exact .refl _ | apply Les.cons | exact .nil)) rfl ?_
          repeat (first | refine seq_ ?_ | refine region_ ?_ | refine nil_ ?_ | refine skip_ ?_ | refine cond_f rfl ?_ | refine guard_t rfl rfl rfl ?_ | refine stepY (y_move rfl) rfl ?_ | refine stepY (y_assign rfl) rfl ?_ | (first | refine stepY (y_pick_t rfl rfl) rfl ?_ | refine stepY (y_pick_f rfl rfl) rfl ?_) | refine stepY (y_cmpT rfl rfl rfl (by omega)) rfl ?_ | refine stepY (y_cmpF rfl rfl rfl (by omega)) rfl ?_)
          refine draw_ [(0, true), (1, true), (2, true), (3, true), (4, true), (5, true), (6, true), (7, true)] 1000 [2, 3, 4] mixed (by kernel_rfl) rfl ?_
          ((refine dY rfl (y_move rfl) rfl rfl rfl rfl ?_); refine dY rfl (y_move rfl) rfl rfl rfl rfl ?_; refine dY rfl (y_quon rfl rfl (by omega) (by simp only [InK, loK, hiK]; omega)) rfl rfl rfl rfl ?_; refine dY rfl (y_move rfl) rfl rfl rfl rfl ?_; refine dY rfl (y_move rfl) rfl rfl rfl rfl ?_; refine dY rfl (y_quon rfl rfl (by omega) (by simp only [InK, loK, hiK]; omega)) rfl rfl rfl rfl ?_; refine dY rfl (y_assign rfl) rfl rfl rfl rfl ?_; refine dY rfl (y_assign rfl) rfl rfl rfl rfl ?_; refine dEnd ?_)
          repeat (first | refine seq_ ?_ | refine region_ ?_ | refine nil_ ?_ | refine ret_ ?_ | refine stepY (y_move rfl) rfl ?_ | refine stepY (y_assign rfl) rfl ?_ | refine stepY (y_load1 rfl rfl rfl) rfl ?_ | refine stepY (y_fieldAddr rfl) rfl ?_ | refine stepY (y_build rfl rfl rfl) rfl ?_ | refine stepY (y_binn rfl rfl rfl (by simp only [InK, loK, hiK]; omega)) rfl ?_ | refine stepY (y_binn rfl rfl rfl (by simp only [InK, loK, hiK]; omega)) rfl ?_ | refine stepE (e_store rfl rfl rfl rfl rfl rfl rfl) ?_)
          ((apply fin_r); (repeat (first | exact .nil | exact .tmp rfl | exact .agg rfl rfl rfl | apply ResL.cons)); (repeat (exact .refl _)))
        · repeat (first | refine seq_ ?_ | refine region_ ?_ | refine nil_ ?_ | refine stepY (y_assign rfl) rfl ?_ | refine stepY (y_loadA rfl rfl rfl) rfl ?_ | refine stepE (e_box rfl rfl rfl rfl rfl rfl) ?_ | refine stepE (e_alloc rfl rfl rfl) ?_ | refine stepE (e_bs_vs rfl rfl rfl rfl rfl rfl) ?_)
          refine seal_Ls (i := 12) (h := 12) rfl rfl rfl rfl ?_
          refine call_ Try.func32 rfl rfl (hc) rfl (by repeat (first | exact .tags _ _ | apply Les.cons | exact .nil)) rfl ?_
          repeat (first | refine seq_ ?_ | refine region_ ?_ | refine nil_ ?_ | refine skip_ ?_ | refine cond_f rfl ?_ | refine stepY (y_move rfl) rfl ?_ | refine stepY (y_assign rfl) rfl ?_ | refine stepY (y_loadA rfl rfl rfl) rfl ?_ | refine stepY (y_eqI rfl rfl rfl rfl rfl rfl (by assumption)) rfl ?_ | refine stepY (y_cmpF rfl rfl rfl (by omega)) rfl ?_)
          refine draw_ [(0, true), (1, true), (2, true), (3, true), (4, true), (5, true), (6, true), (7, true), (8, true), (9, true), (10, true), (11, true)] 1000 [2, 3, 4] mixed (by kernel_rfl) rfl ?_
          ((refine dY rfl (y_fieldAddr rfl) rfl rfl rfl rfl ?_); refine dY rfl (y_load1 rfl rfl rfl) rfl rfl rfl rfl ?_; refine dY rfl (y_fieldAddr rfl) rfl rfl rfl rfl ?_; refine dY rfl (y_load1 rfl rfl rfl) rfl rfl rfl rfl ?_; refine dY rfl (y_binn rfl rfl rfl (by simp only [InK, loK, hiK]; omega)) rfl rfl rfl rfl ?_; refine dY rfl (y_fieldAddr rfl) rfl rfl rfl rfl ?_; refine dY rfl (y_load1 rfl rfl rfl) rfl rfl rfl rfl ?_; refine dY rfl (y_fieldAddr rfl) rfl rfl rfl rfl ?_; refine dY rfl (y_load1 rfl rfl rfl) rfl rfl rfl rfl ?_; refine dY rfl (y_binn rfl rfl rfl (by simp only [InK, loK, hiK]; omega)) rfl rfl rfl rfl ?_; refine dY rfl (y_assign rfl) rfl rfl rfl rfl ?_; refine dY rfl (y_assign rfl) rfl rfl rfl rfl ?_; refine dEnd ?_)
          repeat (first | refine seq_ ?_ | refine region_ ?_ | refine stepY (y_move rfl) rfl ?_)
          refine call_ Try.func41 rfl rfl (hg) rfl (by repeat (first | exact .refl _ | apply Les.cons | exact .nil)) rfl ?_
          repeat (first | refine seq_ ?_ | refine region_ ?_ | refine nil_ ?_ | refine skip_ ?_ | refine cond_f rfl ?_ | refine guard_t rfl rfl rfl ?_ | refine guard_f rfl rfl rfl rfl ?_ | refine stepY (y_move rfl) rfl ?_ | refine stepY (y_assign rfl) rfl ?_ | refine stepY (y_pick_f rfl rfl) rfl ?_ | refine stepY (y_cmpF rfl rfl rfl (by omega)) rfl ?_ | refine stepY (y_cmpF rfl rfl rfl (by omega)) rfl ?_)
          refine draw_ [(0, true), (1, true), (2, true), (3, true), (4, true), (5, true), (6, true), (7, true)] 1000 [2, 3, 4] mixed (by kernel_rfl) rfl ?_
          ((refine dY rfl (y_move rfl) rfl rfl rfl rfl ?_); refine dY rfl (y_move rfl) rfl rfl rfl rfl ?_; refine dY rfl (y_quon rfl rfl (by omega) (by simp only [InK, loK, hiK]; omega)) rfl rfl rfl rfl ?_; refine dY rfl (y_move rfl) rfl rfl rfl rfl ?_; refine dY rfl (y_move rfl) rfl rfl rfl rfl ?_; refine dY rfl (y_quon rfl rfl (by omega) (by simp only [InK, loK, hiK]; omega)) rfl rfl rfl rfl ?_; refine dY rfl (y_assign rfl) rfl rfl rfl rfl ?_; refine dY rfl (y_assign rfl) rfl rfl rfl rfl ?_; refine dEnd ?_)
          repeat (first | refine seq_ ?_ | refine region_ ?_ | refine nil_ ?_ | refine ret_ ?_ | refine stepY (y_move rfl) rfl ?_ | refine stepY (y_assign rfl) rfl ?_ | refine stepY (y_load1 rfl rfl rfl) rfl ?_ | refine stepY (y_fieldAddr rfl) rfl ?_ | refine stepY (y_build rfl rfl rfl) rfl ?_ | refine stepY (y_binn rfl rfl rfl (by simp only [InK, loK, hiK]; omega)) rfl ?_ | refine stepY (y_binn rfl rfl rfl (by simp only [InK, loK, hiK]; omega)) rfl ?_ | refine stepE (e_store rfl rfl rfl rfl rfl rfl rfl) ?_)
          ((apply fin_r); (repeat (first | exact .nil | exact .tmp rfl | exact .agg rfl rfl rfl | apply ResL.cons)); (repeat (exact .refl _)))
  · rw [if_pos hs]
    have hc := check_c [a, b]
    rw [chk2, if_neg hs] at hc
    refine con_of Try.func15 rfl rfl rfl rfl rfl ?_
    repeat (first | refine seq_ ?_ | refine region_ ?_ | refine nil_ ?_ | refine stepY (y_assign rfl) rfl ?_ | refine stepY (y_loadA rfl rfl rfl) rfl ?_ | refine stepE (e_box rfl rfl rfl rfl rfl rfl) ?_ | refine stepE (e_alloc rfl rfl rfl) ?_ | refine stepE (e_bs_vs rfl rfl rfl rfl rfl rfl) ?_)
    refine seal_Ls (i := 12) (h := 12) rfl rfl rfl rfl ?_
    refine call_ Try.func32 rfl rfl (hc) rfl (by repeat (first | exact .tags _ _ | apply Les.cons | exact .nil)) rfl ?_
    repeat (first | refine seq_ ?_ | refine region_ ?_ | refine nil_ ?_ | refine ret_ ?_ | refine cond_t rfl ?_ | refine stepY (y_move rfl) rfl ?_ | refine stepY (y_assign rfl) rfl ?_ | refine stepY (y_build rfl rfl rfl) rfl ?_ | refine stepY (y_cmpT rfl rfl rfl (by omega)) rfl ?_ | refine stepE (e_store rfl rfl rfl rfl rfl rfl rfl) ?_)
    ((apply fin_r); (repeat (first | exact .nil | exact .tmp rfl | exact .agg rfl rfl rfl | apply ResL.cons)); (repeat (exact .refl _)))
theorem RThrough_c (a b : Pt) : Con Try.prog 16 [pt a, pt b] (.tp [lnP (thR a b).1, E_ (thR a b).2]) := by
  unfold thR
  by_cases hs : sm a ∧ sm b
  · rw [if_neg (not_not_intro hs)]
    have hc := right_c [a, b]
    rw [chk2, if_pos hs] at hc
    obtain ⟨ha, hb⟩ := hs
    by_cases hab : a = b
    · rw [if_pos hab]
      have he : eqI [a.1, a.2] [b.1, b.2] = true := by rw [hab]; simp [eqI]
      refine con_of Try.func16 rfl rfl rfl rfl rfl ?_
      repeat (first | refine seq_ ?_ | refine region_ ?_ | refine nil_ ?_ | refine stepY (y_assign rfl) rfl ?_ | refine stepY (y_loadA rfl rfl rfl) rfl ?_ | refine stepE (e_box rfl rfl rfl rfl rfl rfl) ?_ | refine stepE (e_alloc rfl rfl rfl) ?_ | refine stepE (e_bs_vs rfl rfl rfl rfl rfl rfl) ?_)
      refine seal_Ls (i := 12) (h := 12) rfl rfl rfl rfl ?_
      refine call_ Try.func39 rfl rfl (hc) rfl (by repeat (first | exact .tags _ _ | apply Les.cons | exact .nil)) rfl ?_
      repeat (first | refine seq_ ?_ | refine region_ ?_ | refine nil_ ?_ | refine skip_ ?_ | refine ret_ ?_ | refine cond_t rfl ?_ | refine cond_f rfl ?_ | refine stepY (y_move rfl) rfl ?_ | refine stepY (y_assign rfl) rfl ?_ | refine stepY (y_loadA rfl rfl rfl) rfl ?_ | refine stepY (y_build rfl rfl rfl) rfl ?_ | refine stepY (y_eqI rfl rfl rfl rfl rfl rfl (by assumption)) rfl ?_ | refine stepY (y_cmpF rfl rfl rfl (by omega)) rfl ?_ | refine stepE (e_store rfl rfl rfl rfl rfl rfl rfl) ?_)
      ((apply fin_r); (repeat (first | exact .nil | exact .tmp rfl | exact .agg rfl rfl rfl | apply ResL.cons)); (repeat (exact .refl _)))
    · rw [if_neg hab]
      have he : eqI [a.1, a.2] [b.1, b.2] = false := by
        unfold eqI
        refine decide_eq_false (fun h => hab ?_)
        simp only [List.cons.injEq, and_true] at h
        exact Prod.ext h.1 h.2
      have hg := divisor_c (b.2 - a.2) (a.1 - b.1) (by unfold ib; omega) (by unfold ib; omega)
      have hg0 := thG_ne hab
      have hgb : ((Int.gcd (b.2 - a.2) (a.1 - b.1) : Nat) : Int) ≤ 33554432 := by
        rcases Nat.eq_zero_or_pos (b.2 - a.2).natAbs with h0 | h0
        · have : Int.gcd (b.2 - a.2) (a.1 - b.1) = (a.1 - b.1).natAbs := by
            show Nat.gcd (b.2 - a.2).natAbs (a.1 - b.1).natAbs = _
            rw [h0, Nat.gcd_zero_left]
          omega
        · have : Int.gcd (b.2 - a.2) (a.1 - b.1) ≤ (b.2 - a.2).natAbs := Nat.gcd_le_left _ h0
          omega
      unfold thC thA thB thG
      split
      · next hn =>
        have q1 := tdiv_bd (x := b.2 - a.2) (-((Int.gcd (b.2 - a.2) (a.1 - b.1) : Nat) : Int)) (by omega)
        have q2 := tdiv_bd (x := a.1 - b.1) (-((Int.gcd (b.2 - a.2) (a.1 - b.1) : Nat) : Int)) (by omega)
        have q3 := mul_bd (y := a.1) q1 (by omega)
        have q4 := mul_bd (y := a.2) q2 (by omega)
        refine con_of Try.func16 rfl rfl rfl rfl rfl ?_
        by_cases hp : b.2 - a.2 < 0
        · repeat (first | refine seq_ ?_ | refine region_ ?_ | refine nil_ ?_ | refine stepY (y_assign rfl) rfl ?_ | refine stepY (y_loadA rfl rfl rfl) rfl ?_ | refine stepE (e_box rfl rfl rfl rfl rfl rfl) ?_ | refine stepE (e_alloc rfl rfl rfl) ?_ | refine stepE (e_bs_vs rfl rfl rfl rfl rfl rfl) ?_)
          refine seal_Ls (i := 12) (h := 12) rfl rfl rfl rfl ?_
          refine call_ Try.func39 rfl rfl (hc) rfl (by repeat (first | exact .tags _ _ | apply Les.cons | exact .nil)) rfl ?_
          repeat (first | refine seq_ ?_ | refine region_ ?_ | refine nil_ ?_ | refine skip_ ?_ | refine cond_f rfl ?_ | refine stepY (y_move rfl) rfl ?_ | refine stepY (y_assign rfl) rfl ?_ | refine stepY (y_loadA rfl rfl rfl) rfl ?_ | refine stepY (y_eqI rfl rfl rfl rfl rfl rfl (by assumption)) rfl ?_ | refine stepY (y_cmpF rfl rfl rfl (by omega)) rfl ?_)
          refine draw_ [(0, true), (1, true), (2, true), (3, true), (4, true), (5, true), (6, true), (7, true), (8, true), (9, true), (10, true), (11, true)] 1000 [2, 3, 4] mixed (by kernel_rfl) rfl ?_
          ((refine dY rfl (y_fieldAddr rfl) rfl rfl rfl rfl ?_); refine dY rfl (y_load1 rfl rfl rfl) rfl rfl rfl rfl ?_; refine dY rfl (y_fieldAddr rfl) rfl rfl rfl rfl ?_; refine dY rfl (y_load1 rfl rfl rfl) rfl rfl rfl rfl ?_; refine dY rfl (y_binn rfl rfl rfl (by simp only [InK, loK, hiK]; omega)) rfl rfl rfl rfl ?_; refine dY rfl (y_fieldAddr rfl) rfl rfl rfl rfl ?_; refine dY rfl (y_load1 rfl rfl rfl) rfl rfl rfl rfl ?_; refine dY rfl (y_fieldAddr rfl) rfl rfl rfl rfl ?_; refine dY rfl (y_load1 rfl rfl rfl) rfl rfl rfl rfl ?_; refine dY rfl (y_binn rfl rfl rfl (by simp only [InK, loK, hiK]; omega)) rfl rfl rfl rfl ?_; refine dY rfl (y_assign rfl) rfl rfl rfl rfl ?_; refine dY rfl (y_assign rfl) rfl rfl rfl rfl ?_; refine dEnd ?_)
          repeat (first | refine seq_ ?_ | refine region_ ?_ | refine stepY (y_move rfl) rfl ?_)
          refine call_ Try.func42 rfl rfl (hg) rfl (by repeat (first | exact .refl _ | apply Les.cons | exact .nil)) rfl ?_
          repeat (first | refine seq_ ?_ | refine region_ ?_ | refine nil_ ?_ | refine cond_t rfl ?_ | refine guard_f rfl rfl rfl rfl ?_ | refine guard_u rfl rfl rfl ?_ | refine stepY (y_move rfl) rfl ?_ | refine stepY (y_assign rfl) rfl ?_ | refine stepY (y_negn rfl (by simp only [InK, loK, hiK]; omega)) rfl ?_ | refine stepY (y_pick_t rfl rfl) rfl ?_ | refine stepY (y_cmpT rfl rfl rfl (by omega)) rfl ?_)
          refine draw_ [(0, true), (1, true), (2, true), (3, true), (4, true), (5, true), (6, true), (7, true)] 1000 [2, 3, 4] mixed (by kernel_rfl) rfl ?_
          ((refine dY rfl (y_move rfl) rfl rfl rfl rfl ?_); refine dY rfl (y_move rfl) rfl rfl rfl rfl ?_; refine dY rfl (y_quon rfl rfl (by omega) (by simp only [InK, loK, hiK]; omega)) rfl rfl rfl rfl ?_; refine dY rfl (y_move rfl) rfl rfl rfl rfl ?_; refine dY rfl (y_move rfl) rfl rfl rfl rfl ?_; refine dY rfl (y_quon rfl rfl (by omega) (by simp only [InK, loK, hiK]; omega)) rfl rfl rfl rfl ?_; refine dY rfl (y_assign rfl) rfl rfl rfl rfl ?_; refine dY rfl (y_assign rfl) rfl rfl rfl rfl ?_; refine dEnd ?_)
          repeat (first | refine seq_ ?_ | refine region_ ?_ | refine nil_ ?_ | refine ret_ ?_ | refine stepY (y_move rfl) rfl ?_ | refine stepY (y_assign rfl) rfl ?_ | refine stepY (y_load1 rfl rfl rfl) rfl ?_ | refine stepY (y_fieldAddr rfl) rfl ?_ | refine stepY (y_build rfl rfl rfl) rfl ?_ | refine stepY (y_binn rfl rfl rfl (by simp only [InK, loK, hiK]; omega)) rfl ?_ | refine stepY (y_binn rfl rfl rfl (by simp only [InK, loK, hiK]; omega)) rfl ?_ | refine stepE (e_store rfl rfl rfl rfl rfl rfl rfl) ?_)
          ((apply fin_r); (repeat (first | exact .nil | exact .tmp rfl | exact .agg rfl rfl rfl | apply ResL.cons)); (repeat (exact .refl _)))
        · have hp2 : b.2 - a.2 = 0 := by omega
          have hp3 : a.1 - b.1 < 0 := by omega
          repeat (first | refine seq_ ?_ | refine region_ ?_ | refine nil_ ?_ | refine stepY (y_assign rfl) rfl ?_ | refine stepY (y_loadA rfl rfl rfl) rfl ?_ | refine stepE (e_box rfl rfl rfl rfl rfl rfl) ?_ | refine stepE (e_alloc rfl rfl rfl) ?_ | refine stepE (e_bs_vs rfl rfl rfl rfl rfl rfl) ?_)
          refine seal_Ls (i := 12) (h := 12) rfl rfl rfl rfl ?_
          refine call_ Try.func39 rfl rfl (hc) rfl (by repeat (first | exact .tags _ _ | apply Les.cons | exact .nil)) rfl ?_
          repeat (first | refine seq_ ?_ | refine region_ ?_ | refine nil_ ?_ | refine skip_ ?_ | refine cond_f rfl ?_ | refine stepY (y_move rfl) rfl ?_ | refine stepY (y_assign rfl) rfl ?_ | refine stepY (y_loadA rfl rfl rfl) rfl ?_ | refine stepY (y_eqI rfl rfl rfl rfl rfl rfl (by assumption)) rfl ?_ | refine stepY (y_cmpF rfl rfl rfl (by omega)) rfl ?_)
          refine draw_ [(0, true), (1, true), (2, true), (3, true), (4, true), (5, true), (6, true), (7, true), (8, true), (9, true), (10, true), (11, true)] 1000 [2, 3, 4] mixed (by kernel_rfl) rfl ?_
          ((refine dY rfl (y_fieldAddr rfl) rfl rfl rfl rfl ?_); refine dY rfl (y_load1 rfl rfl rfl) rfl rfl rfl rfl ?_; refine dY rfl (y_fieldAddr rfl) rfl rfl rfl rfl ?_; refine dY rfl (y_load1 rfl rfl rfl) rfl rfl rfl rfl ?_; refine dY rfl (y_binn rfl rfl rfl (by simp only [InK, loK, hiK]; omega)) rfl rfl rfl rfl ?_; refine dY rfl (y_fieldAddr rfl) rfl rfl rfl rfl ?_; refine dY rfl (y_load1 rfl rfl rfl) rfl rfl rfl rfl ?_; refine dY rfl (y_fieldAddr rfl) rfl rfl rfl rfl ?_; refine dY rfl (y_load1 rfl rfl rfl) rfl rfl rfl rfl ?_; refine dY rfl (y_binn rfl rfl rfl (by simp only [InK, loK, hiK]; omega)) rfl rfl rfl rfl ?_; refine dY rfl (y_assign rfl) rfl rfl rfl rfl ?_; refine dY rfl (y_assign rfl) rfl rfl rfl rfl ?_; refine dEnd ?_)
          repeat (first | refine seq_ ?_ | refine region_ ?_ | refine stepY (y_move rfl) rfl ?_)
          refine call_ Try.func42 rfl rfl (hg) rfl (by repeat (first | exact .refl _ | apply Les.cons | exact .nil)) rfl ?_
          repeat (first | refine seq_ ?_ | refine region_ ?_ | refine nil_ ?_ | refine cond_t rfl ?_ | refine guard_t rfl rfl rfl ?_ | refine stepY (y_move rfl) rfl ?_ | refine stepY (y_assign rfl) rfl ?_ | refine stepY (y_negn rfl (by simp only [InK, loK, hiK]; omega)) rfl ?_ | (first | refine stepY (y_pick_t rfl rfl) rfl ?_ | refine stepY (y_pick_f rfl rfl) rfl ?_) | refine stepY (y_cmpT rfl rfl rfl (by omega)) rfl ?_ | (first | refine stepY (y_cmpT rfl rfl rfl (by omega)) rfl ?_ | refine stepY (y_cmpF rfl rfl rfl (by omega)) rfl ?_))
          refine draw_ [(0, true), (1, true), (2, true), (3, true), (4, true), (5, true), (6, true), (7, true)] 1000 [2, 3, 4] mixed (by kernel_rfl) rfl ?_
          ((refine dY rfl (y_move rfl) rfl rfl rfl rfl ?_); refine dY rfl (y_move rfl) rfl rfl rfl rfl ?_; refine dY rfl (y_quon rfl rfl (by omega) (by simp only [InK, loK, hiK]; omega)) rfl rfl rfl rfl ?_; refine dY rfl (y_move rfl) rfl rfl rfl rfl ?_; refine dY rfl (y_move rfl) rfl rfl rfl rfl ?_; refine dY rfl (y_quon rfl rfl (by omega) (by simp only [InK, loK, hiK]; omega)) rfl rfl rfl rfl ?_; refine dY rfl (y_assign rfl) rfl rfl rfl rfl ?_; refine dY rfl (y_assign rfl) rfl rfl rfl rfl ?_; refine dEnd ?_)
          repeat (first | refine seq_ ?_ | refine region_ ?_ | refine nil_ ?_ | refine ret_ ?_ | refine stepY (y_move rfl) rfl ?_ | refine stepY (y_assign rfl) rfl ?_ | refine stepY (y_load1 rfl rfl rfl) rfl ?_ | refine stepY (y_fieldAddr rfl) rfl ?_ | refine stepY (y_build rfl rfl rfl) rfl ?_ | refine stepY (y_binn rfl rfl rfl (by simp only [InK, loK, hiK]; omega)) rfl ?_ | refine stepY (y_binn rfl rfl rfl (by simp only [InK, loK, hiK]; omega)) rfl ?_ | refine stepE (e_store rfl rfl rfl rfl rfl rfl rfl) ?_)
          ((apply fin_r); (repeat (first | exact .nil | exact .tmp rfl | exact .agg rfl rfl rfl | apply ResL.cons)); (repeat (exact .refl _)))
      · next hn =>
        have q1 := tdiv_bd (x := b.2 - a.2) (((Int.gcd (b.2 - a.2) (a.1 - b.1) : Nat) : Int)) (by omega)
        have q2 := tdiv_bd (x := a.1 - b.1) (((Int.gcd (b.2 - a.2) (a.1 - b.1) : Nat) : Int)) (by omega)
        have q3 := mul_bd (y := a.1) q1 (by omega)
        have q4 := mul_bd (y := a.2) q2 (by omega)
        refine con_of Try.func16 rfl rfl rfl rfl rfl ?_
        by_cases hp2 : b.2 - a.2 = 0
        · repeat (first | refine seq_ ?_ | refine region_ ?_ | refine nil_ ?_ | refine stepY (y_assign rfl) rfl ?_ | refine stepY (y_loadA rfl rfl rfl) rfl ?_ | refine stepE (e_box rfl rfl rfl rfl rfl rfl) ?_ | refine stepE (e_alloc rfl rfl rfl) ?_ | refine stepE (e_bs_vs rfl rfl rfl rfl rfl rfl) ?_)
          refine seal_Ls (i := 12) (h := 12) rfl rfl rfl rfl ?_
          refine call_ Try.func39 rfl rfl (hc) rfl (by repeat (first | exact .tags _ _ | apply Les.cons | exact .nil)) rfl ?_
          repeat (first | refine seq_ ?_ | refine region_ ?_ | refine nil_ ?_ | refine skip_ ?_ | refine cond_f rfl ?_ | refine stepY (y_move rfl) rfl ?_ | refine stepY (y_assign rfl) rfl ?_ | refine stepY (y_loadA rfl rfl rfl) rfl ?_ | refine stepY (y_eqI rfl rfl rfl rfl rfl rfl (by assumption)) rfl ?_ | refine stepY (y_cmpF rfl rfl rfl (by omega)) rfl ?_)
          refine draw_ [(0, true), (1, true), (2, true), (3, true), (4, true), (5, true), (6, true), (7, true), (8, true), (9, true), (10, true), (11, true)] 1000 [2, 3, 4] mixed (by kernel_rfl) rfl ?_
          ((refine dY rfl (y_fieldAddr rfl) rfl rfl rfl rfl ?_); refine dY rfl (y_load1 rfl rfl rfl) rfl rfl rfl rfl ?_; refine dY rfl (y_fieldAddr rfl) rfl rfl rfl rfl ?_; refine dY rfl (y_load1 rfl rfl rfl) rfl rfl rfl rfl ?_; refine dY rfl (y_binn rfl rfl rfl (by simp only [InK, loK, hiK]; omega)) rfl rfl rfl rfl ?_; refine dY rfl (y_fieldAddr rfl) rfl rfl rfl rfl ?_; refine dY rfl (y_load1 rfl rfl rfl) rfl rfl rfl rfl ?_; refine dY rfl (y_fieldAddr rfl) rfl rfl rfl rfl ?_; refine dY rfl (y_load1 rfl rfl rfl) rfl rfl rfl rfl ?_; refine dY rfl (y_binn rfl rfl rfl (by simp only [InK, loK, hiK]; omega)) rfl rfl rfl rfl ?_; refine dY rfl (y_assign rfl) rfl rfl rfl rfl ?_; refine dY rfl (y_assign rfl) rfl rfl rfl rfl ?_; refine dEnd ?_)
          repeat (first | refine seq_ ?_ | refine region_ ?_ | refine stepY (y_move rfl) rfl ?_)
          refine call_ Try.func42 rfl rfl (hg) rfl (by repeat (first | exact .refl _ | apply Les.cons | exact .nil)) rfl ?_
          repeat (first | refine seq_ ?_ | refine region_ ?_ | refine nil_ ?_ | refine skip_ ?_ | refine cond_f rfl ?_ | refine guard_t rfl rfl rfl ?_ | refine stepY (y_move rfl) rfl ?_ | refine stepY (y_assign rfl) rfl ?_ | (first | refine stepY (y_pick_t rfl rfl) rfl ?_ | refine stepY (y_pick_f rfl rfl) rfl ?_) | refine stepY (y_cmpT rfl rfl rfl (by omega)) rfl ?_ | refine stepY (y_cmpF rfl rfl rfl (by omega)) rfl ?_)
          refine draw_ [(0, true), (1, true), (2, true), (3, true), (4, true), (5, true), (6, true), (7, true)] 1000 [2, 3, 4] mixed (by kernel_rfl) rfl ?_
          ((refine dY rfl (y_move rfl) rfl rfl rfl rfl ?_); refine dY rfl (y_move rfl) rfl rfl rfl rfl ?_; refine dY rfl (y_quon rfl rfl (by omega) (by simp only [InK, loK, hiK]; omega)) rfl rfl rfl rfl ?_; refine dY rfl (y_move rfl) rfl rfl rfl rfl ?_; refine dY rfl (y_move rfl) rfl rfl rfl rfl ?_; refine dY rfl (y_quon rfl rfl (by omega) (by simp only [InK, loK, hiK]; omega)) rfl rfl rfl rfl ?_; refine dY rfl (y_assign rfl) rfl rfl rfl rfl ?_; refine dY rfl (y_assign rfl) rfl rfl rfl rfl ?_; refine dEnd ?_)
          repeat (first | refine seq_ ?_ | refine region_ ?_ | refine nil_ ?_ | refine ret_ ?_ | refine stepY (y_move rfl) rfl ?_ | refine stepY (y_assign rfl) rfl ?_ | refine stepY (y_load1 rfl rfl rfl) rfl ?_ | refine stepY (y_fieldAddr rfl) rfl ?_ | refine stepY (y_build rfl rfl rfl) rfl ?_ | refine stepY (y_binn rfl rfl rfl (by simp only [InK, loK, hiK]; omega)) rfl ?_ | refine stepY (y_binn rfl rfl rfl (by simp only [InK, loK, hiK]; omega)) rfl ?_ | refine stepE (e_store rfl rfl rfl rfl rfl rfl rfl) ?_)
          ((apply fin_r); (repeat (first | exact .nil | exact .tmp rfl | exact .agg rfl rfl rfl | apply ResL.cons)); (repeat (exact .refl _)))
        · repeat (first | refine seq_ ?_ | refine region_ ?_ | refine nil_ ?_ | refine stepY (y_assign rfl) rfl ?_ | refine stepY (y_loadA rfl rfl rfl) rfl ?_ | refine stepE (e_box rfl rfl rfl rfl rfl rfl) ?_ | refine stepE (e_alloc rfl rfl rfl) ?_ | refine stepE (e_bs_vs rfl rfl rfl rfl rfl rfl) ?_)
          refine seal_Ls (i := 12) (h := 12) rfl rfl rfl rfl ?_
          refine call_ Try.func39 rfl rfl (hc) rfl (by repeat (first | exact .tags _ _ | apply Les.cons | exact .nil)) rfl ?_
          repeat (first | refine seq_ ?_ | refine region_ ?_ | refine nil_ ?_ | refine skip_ ?_ | refine cond_f rfl ?_ | refine stepY (y_move rfl) rfl ?_ | refine stepY (y_assign rfl) rfl ?_ | refine stepY (y_loadA rfl rfl rfl) rfl ?_ | refine stepY (y_eqI rfl rfl rfl rfl rfl rfl (by assumption)) rfl ?_ | refine stepY (y_cmpF rfl rfl rfl (by omega)) rfl ?_)
          refine draw_ [(0, true), (1, true), (2, true), (3, true), (4, true), (5, true), (6, true), (7, true), (8, true), (9, true), (10, true), (11, true)] 1000 [2, 3, 4] mixed (by kernel_rfl) rfl ?_
          ((refine dY rfl (y_fieldAddr rfl) rfl rfl rfl rfl ?_); refine dY rfl (y_load1 rfl rfl rfl) rfl rfl rfl rfl ?_; refine dY rfl (y_fieldAddr rfl) rfl rfl rfl rfl ?_; refine dY rfl (y_load1 rfl rfl rfl) rfl rfl rfl rfl ?_; refine dY rfl (y_binn rfl rfl rfl (by simp only [InK, loK, hiK]; omega)) rfl rfl rfl rfl ?_; refine dY rfl (y_fieldAddr rfl) rfl rfl rfl rfl ?_; refine dY rfl (y_load1 rfl rfl rfl) rfl rfl rfl rfl ?_; refine dY rfl (y_fieldAddr rfl) rfl rfl rfl rfl ?_; refine dY rfl (y_load1 rfl rfl rfl) rfl rfl rfl rfl ?_; refine dY rfl (y_binn rfl rfl rfl (by simp only [InK, loK, hiK]; omega)) rfl rfl rfl rfl ?_; refine dY rfl (y_assign rfl) rfl rfl rfl rfl ?_; refine dY rfl (y_assign rfl) rfl rfl rfl rfl ?_; refine dEnd ?_)
          repeat (first | refine seq_ ?_ | refine region_ ?_ | refine stepY (y_move rfl) rfl ?_)
          refine call_ Try.func42 rfl rfl (hg) rfl (by repeat (first | exact .refl _ | apply Les.cons | exact .nil)) rfl ?_
          repeat (first | refine seq_ ?_ | refine region_ ?_ | refine nil_ ?_ | refine skip_ ?_ | refine cond_f rfl ?_ | refine guard_t rfl rfl rfl ?_ | refine guard_f rfl rfl rfl rfl ?_ | refine stepY (y_move rfl) rfl ?_ | refine stepY (y_assign rfl) rfl ?_ | refine stepY (y_pick_f rfl rfl) rfl ?_ | refine stepY (y_cmpF rfl rfl rfl (by omega)) rfl ?_ | refine stepY (y_cmpF rfl rfl rfl (by omega)) rfl ?_)
          refine draw_ [(0, true), (1, true), (2, true), (3, true), (4, true), (5, true), (6, true), (7, true)] 1000 [2, 3, 4] mixed (by kernel_rfl) rfl ?_
          ((refine dY rfl (y_move rfl) rfl rfl rfl rfl ?_); refine dY rfl (y_move rfl) rfl rfl rfl rfl ?_; refine dY rfl (y_quon rfl rfl (by omega) (by simp only [InK, loK, hiK]; omega)) rfl rfl rfl rfl ?_; refine dY rfl (y_move rfl) rfl rfl rfl rfl ?_; refine dY rfl (y_move rfl) rfl rfl rfl rfl ?_; refine dY rfl (y_quon rfl rfl (by omega) (by simp only [InK, loK, hiK]; omega)) rfl rfl rfl rfl ?_; refine dY rfl (y_assign rfl) rfl rfl rfl rfl ?_; refine dY rfl (y_assign rfl) rfl rfl rfl rfl ?_; refine dEnd ?_)
          repeat (first | refine seq_ ?_ | refine region_ ?_ | refine nil_ ?_ | refine ret_ ?_ | refine stepY (y_move rfl) rfl ?_ | refine stepY (y_assign rfl) rfl ?_ | refine stepY (y_load1 rfl rfl rfl) rfl ?_ | refine stepY (y_fieldAddr rfl) rfl ?_ | refine stepY (y_build rfl rfl rfl) rfl ?_ | refine stepY (y_binn rfl rfl rfl (by simp only [InK, loK, hiK]; omega)) rfl ?_ | refine stepY (y_binn rfl rfl rfl (by simp only [InK, loK, hiK]; omega)) rfl ?_ | refine stepE (e_store rfl rfl rfl rfl rfl rfl rfl) ?_)
          ((apply fin_r); (repeat (first | exact .nil | exact .tmp rfl | exact .agg rfl rfl rfl | apply ResL.cons)); (repeat (exact .refl _)))
  · rw [if_pos hs]
    have hc := right_c [a, b]
    rw [chk2, if_neg hs] at hc
    refine con_of Try.func16 rfl rfl rfl rfl rfl ?_
    repeat (first | refine seq_ ?_ | refine region_ ?_ | refine nil_ ?_ | refine stepY (y_assign rfl) rfl ?_ | refine stepY (y_loadA rfl rfl rfl) rfl ?_ | refine stepE (e_box rfl rfl rfl rfl rfl rfl) ?_ | refine stepE (e_alloc rfl rfl rfl) ?_ | refine stepE (e_bs_vs rfl rfl rfl rfl rfl rfl) ?_)
    refine seal_Ls (i := 12) (h := 12) rfl rfl rfl rfl ?_
    refine call_ Try.func39 rfl rfl (hc) rfl (by repeat (first | exact .tags _ _ | apply Les.cons | exact .nil)) rfl ?_
    repeat (first | refine seq_ ?_ | refine region_ ?_ | refine nil_ ?_ | refine ret_ ?_ | refine cond_t rfl ?_ | refine stepY (y_move rfl) rfl ?_ | refine stepY (y_assign rfl) rfl ?_ | refine stepY (y_build rfl rfl rfl) rfl ?_ | refine stepY (y_cmpT rfl rfl rfl (by omega)) rfl ?_ | refine stepE (e_store rfl rfl rfl rfl rfl rfl rfl) ?_)
    ((apply fin_r); (repeat (first | exact .nil | exact .tmp rfl | exact .agg rfl rfl rfl | apply ResL.cons)); (repeat (exact .refl _)))
end Go.Av

set_option maxHeartbeats 8000000
set_option exponentiation.threshold 100000
set_option maxRecDepth 100000
set_option linter.unusedVariables false
set_option linter.unusedSimpArgs false
namespace Go.Av
open Go Go.Proofs

open Go.RowKit
/-! Cross, Order -/
def crR (o a b : Pt) : Int × Int := if sm o ∧ sm a ∧ sm b then (crossP o a b, 0) else (0, 3)
theorem Cross_c (o a b : Pt) : Con Try.prog 12 [pt o, pt a, pt b] (.tp [I (crR o a b).1, E_ (crR o a b).2]) := by
  unfold crR
  have hc := check_c [o, a, b]
  rw [chk3] at hc
  by_cases hs : sm o ∧ sm a ∧ sm b
  · rw [if_pos hs] at hc ⊢
    have hx := cross_c o a b hs.1 hs.2.1 hs.2.2
    refine con_of Try.func12 rfl rfl rfl rfl rfl ?_
    repeat (first | refine seq_ ?_ | refine region_ ?_ | refine nil_ ?_ | refine stepY (y_assign rfl) rfl ?_ | refine stepY (y_loadA rfl rfl rfl) rfl ?_ | refine stepE (e_box rfl rfl rfl rfl rfl rfl) ?_ | refine stepE (e_bs_vs rfl rfl rfl rfl rfl rfl) ?_)
    refine seal_Ls (i := 12) (h := 12) rfl rfl rfl rfl ?_
    refine call_ Try.func32 rfl rfl (hc) rfl (by repeat (first | exact .tags _ _ | apply Les.cons | exact .nil)) rfl ?_
    repeat (first | refine seq_ ?_ | refine region_ ?_ | refine nil_ ?_ | refine skip_ ?_ | refine cond_f rfl ?_ | refine stepY (y_move rfl) rfl ?_ | refine stepY (y_assign rfl) rfl ?_ | refine stepY (y_loadA rfl rfl rfl) rfl ?_ | refine stepY (y_cmpF rfl rfl rfl (by omega)) rfl ?_)
    refine call_ Try.func34 rfl rfl (hx) rfl (by repeat (first | exact .refl _ | apply Les.cons | exact .nil)) rfl ?_
    repeat (first | refine nil_ ?_ | refine ret_ ?_ | refine stepY (y_assign rfl) rfl ?_)
    ((apply fin_r); (repeat (first | exact .nil | exact .tmp rfl | apply ResL.cons)); (repeat (exact .refl _)))
  · rw [if_neg hs] at hc ⊢
    refine con_of Try.func12 rfl rfl rfl rfl rfl ?_
    repeat (first | refine seq_ ?_ | refine region_ ?_ | refine nil_ ?_ | refine stepY (y_assign rfl) rfl ?_ | refine stepY (y_loadA rfl rfl rfl) rfl ?_ | refine stepE (e_box rfl rfl rfl rfl rfl rfl) ?_ | refine stepE (e_bs_vs rfl rfl rfl rfl rfl rfl) ?_)
    refine seal_Ls (i := 12) (h := 12) rfl rfl rfl rfl ?_
    refine call_ Try.func32 rfl rfl (hc) rfl (by repeat (first | exact .tags _ _ | apply Les.cons | exact .nil)) rfl ?_
    repeat (first | refine seq_ ?_ | refine region_ ?_ | refine nil_ ?_ | refine ret_ ?_ | refine cond_t rfl ?_ | refine stepY (y_move rfl) rfl ?_ | refine stepY (y_assign rfl) rfl ?_ | refine stepY (y_cmpT rfl rfl rfl (by omega)) rfl ?_)
    ((apply fin_r); (repeat (first | exact .nil | exact .tmp rfl | apply ResL.cons)); (repeat (exact .refl _)))
theorem RCross_c (o a b : Pt) : Con Try.prog 14 [pt o, pt a, pt b] (.tp [I (crR o a b).1, E_ (crR o a b).2]) := by
  unfold crR
  have hc := right_c [o, a, b]
  rw [chk3] at hc
  by_cases hs : sm o ∧ sm a ∧ sm b
  · rw [if_pos hs] at hc ⊢
    have hx := Rcross_c o a b hs.1 hs.2.1 hs.2.2
    refine con_of Try.func14 rfl rfl rfl rfl rfl ?_
    repeat (first | refine seq_ ?_ | refine region_ ?_ | refine nil_ ?_ | refine stepY (y_assign rfl) rfl ?_ | refine stepY (y_loadA rfl rfl rfl) rfl ?_ | refine stepE (e_box rfl rfl rfl rfl rfl rfl) ?_ | refine stepE (e_bs_vs rfl rfl rfl rfl rfl rfl) ?_)
    refine seal_Ls (i := 12) (h := 12) rfl rfl rfl rfl ?_
    refine call_ Try.func39 rfl rfl (hc) rfl (by repeat (first | exact .tags _ _ | apply Les.cons | exact .nil)) rfl ?_
    repeat (first | refine seq_ ?_ | refine region_ ?_ | refine nil_ ?_ | refine skip_ ?_ | refine cond_f rfl ?_ | refine stepY (y_move rfl) rfl ?_ | refine stepY (y_assign rfl) rfl ?_ | refine stepY (y_loadA rfl rfl rfl) rfl ?_ | refine stepY (y_cmpF rfl rfl rfl (by omega)) rfl ?_)
    refine call_ Try.func40 rfl rfl (hx) rfl (by repeat (first | exact .refl _ | apply Les.cons | exact .nil)) rfl ?_
    repeat (first | refine nil_ ?_ | refine ret_ ?_ | refine stepY (y_assign rfl) rfl ?_)
    ((apply fin_r); (repeat (first | exact .nil | exact .tmp rfl | apply ResL.cons)); (repeat (exact .refl _)))
  · rw [if_neg hs] at hc ⊢
    refine con_of Try.func14 rfl rfl rfl rfl rfl ?_
    repeat (first | refine seq_ ?_ | refine region_ ?_ | refine nil_ ?_ | refine stepY (y_assign rfl) rfl ?_ | refine stepY (y_loadA rfl rfl rfl) rfl ?_ | refine stepE (e_box rfl rfl rfl rfl rfl rfl) ?_ | refine stepE (e_bs_vs rfl rfl rfl rfl rfl rfl) ?_)
    refine seal_Ls (i := 12) (h := 12) rfl rfl rfl rfl ?_
    refine call_ Try.func39 rfl rfl (hc) rfl (by repeat (first | exact .tags _ _ | apply Les.cons | exact .nil)) rfl ?_
    repeat (first | refine seq_ ?_ | refine region_ ?_ | refine nil_ ?_ | refine ret_ ?_ | refine cond_t rfl ?_ | refine stepY (y_move rfl) rfl ?_ | refine stepY (y_assign rfl) rfl ?_ | refine stepY (y_cmpT rfl rfl rfl (by omega)) rfl ?_)
    ((apply fin_r); (repeat (first | exact .nil | exact .tmp rfl | apply ResL.cons)); (repeat (exact .refl _)))
end Go.Av

set_option maxHeartbeats 8000000
set_option exponentiation.threshold 100000
set_option maxRecDepth 100000
set_option linter.unusedVariables false
set_option linter.unusedSimpArgs false
namespace Go.Av
open Go Go.Proofs

open Go.RowKit
/-! Arrays of structs -/
class TArrb (P : Program) (t : TypeId) (n sz : outParam Nat) : Prop where
  out : P.underlying t = some (.array n (P.elem t)) ∧ (P.info? (P.elem t)).map (·.size) = some sz
def arrBb (P : Program) (t : TypeId) (n sz : Nat) : Bool := sizeB P (P.elem t) sz && match P.underlying t with
  | some (.array n' _) => Nat.beq n n'
  | _ => false
theorem TArrb.of {P : Program} {t : TypeId} {n sz : Nat} (h : arrBb P t n sz = true) : TArrb P t n sz := by
  simp only [arrBb, Bool.and_eq_true] at h
  obtain ⟨h1, h2⟩ := h
  refine ⟨?_, sizeB_out h1⟩
  cases hu : P.underlying t with
  | none => rw [hu] at h2; cases h2
  | some d =>
    rw [hu] at h2
    cases d <;> simp_all
    · simp [Program.elem, hu]


section
variable {P : Program} {N : Nat} {E : Env} {H : Hp}
theorem y_index_arrb {h o n sz : Nat} {x i : Operand} {t ty : TypeId} {ik : IntKind} {j : Int} [ht : TArrb P t n sz] (hx : evT E x = some (.ptr h o)) (hi : evT E i = some (.p (.v (.int ik j)))) (h0 : 0 ≤ j) (h1 : j < n) : Yl P (.indexAddr t x i) ty E H (.ptr h (o + j.toNat * sz)) .no := by
  unfold Yl
  intro okA w0 N ρ tmps w r
  have h2 := ev_rel r hx
  simp only [RelT] at h2
  obtain ⟨g, hg, ea⟩ := h2
  have hn : P.underlying t = some (.array n (P.elem t)) := ht.out.1
  obtain ⟨ie, hie, hs⟩ := Option.map_eq_some_iff.1 ht.out.2
  refine ⟨.pointer (some ⟨g, o + j.toNat * sz, none⟩), fun W _ _ _ _ _ => ?_, by simp only [RelT]; exact ⟨g, hg, rfl⟩⟩
  simp [execOp, ea, ev_v r hi, Instr.indexAt, Instr.sureAddr, run_underlying hn, asIntOf, h0, h1, sizeOf, typeInfo, hie, hs, Addr.add_lit]


def plB (P : Program) (t : TypeId) (sz : Nat) : Option (List Value × Nat) := match P.info? t, P.underlying t with
  | some it, some (.array n e) => match it.zero, P.info? e with
    | some z, some ie => bif Nat.beq ie.size sz then some (z.cells.toList, n) else none
    | _, _ => none
  | _, _ => none
class TPb (P : Program) (t : TypeId) (cs : outParam (List PV)) (n sz : outParam Nat) : Prop where
  out : ∃ z : List Value, cs = z.map PV.v ∧ (∀ u ∈ z, u.oneCell' = true) ∧ ∀ parts, P.built t parts = Instr.fill (fun i => some (i * sz, sz)) z.toArray parts
theorem TPb.of {P : Program} {t n sz : Nat} {zs : List Value} (h : plB P t sz = some (zs, n)) (h1 : zs.all (·.oneCell') = true) : TPb P t (zs.map PV.v) n sz := by
  unfold plB at h
  split at h
  · rename_i it n' e hi hu
    split at h
    · rename_i z ie hz he
      cases hs : Nat.beq ie.size sz with
      | false => rw [hs] at h; cases h
      | true =>
        rw [hs] at h
        simp only [cond_true, Option.some.injEq, Prod.mk.injEq] at h
        obtain ⟨rfl, rfl⟩ := h
        refine ⟨z.cells.toList, rfl, fun u hu => List.all_eq_true.1 h1 u hu, fun parts => ?_⟩
        simp only [Program.built, hi, hu, hz, he, Nat.eq_of_beq_eq_true hs]
    · cases h
  · cases h
def plNb (n sz : Nat) : List (Nat × Nat) := (List.range n).map fun i => (i * sz, sz)
theorem y_build_arrb {t ty n sz : Nat} {parts : Array (Nat × Operand)} {cs zs : List PV} {xs : List (Nat × PV)} [hp : TPb P t cs n sz] (hx : evps E parts.toList = some xs) (h1 : onesP xs = true) (hi : parts.toList.all (fun q => Nat.blt q.1 n) = true) (hf : fillP (plNb n sz) cs xs = some zs) : Yl P (.build t parts) ty E H (.p (.ag zs)) .no := by
  unfold Yl
  intro okA w0 N ρ tmps w r
  obtain ⟨z, rfl, hz1, hz2⟩ := hp.out
  obtain ⟨h2, h3⟩ := evps_rel r hx
  have h1' : ∀ p ∈ xs, Av.ones (cellsP p.2) = true := by
    clear hx hf h2 h3
    induction xs with
    | nil => simp
    | cons q qs ih =>
      obtain ⟨i, u⟩ := q
      simp only [onesP, Bool.and_eq_true] at h1
      intro p hp
      rcases List.mem_cons.1 hp with rfl | hp
      · exact h1.1
      · exact ih h1.2 p hp
  obtain ⟨us, hu1, hu2⟩ := fillP_rel (rels_exact z) h2 h3 h1' hf
  refine ⟨.agg us.toArray, fun W _ _ _ _ _ => ?_, by simp only [RelT, Rel]; exact ⟨us, rfl, hu2⟩⟩
  have hcg := fill_congr (f := fun i => some (i * sz, sz)) (g := fun i => (plNb n sz)[i]?) (parts.toList.map fun (i, x) => (i, Act.eval ⟨tmps, []⟩ x)) z.toArray (fun q hq => by
    obtain ⟨q0, hq0, rfl⟩ := List.mem_map.1 hq
    have := Nat.le_of_ble_eq_true (List.all_eq_true.1 hi q0 hq0)
    simp only [plNb, List.getElem?_map, List.getElem?_range this, Option.map_some])
  have := run_build (P := P) W t (parts.map fun (i, x) => (i, Act.eval ⟨tmps, []⟩ x)) us.toArray (by rw [hz2, ← hu1, ← hcg]; congr 1; simp)
  simp [execOp, this]
end
instance : TArrb Try.prog 39 3 2 := .of (by kernel_rfl)
instance : TPb Try.prog 39 [I 0, I 0, I 0, I 0, I 0, I 0] 3 2 := TPb.of (zs := [.int .i64 0, .int .i64 0, .int .i64 0, .int .i64 0, .int .i64 0, .int .i64 0]) (by kernel_rfl) rfl
end Go.Av

set_option maxHeartbeats 8000000
set_option maxRecDepth 100000
set_option linter.unusedVariables false
set_option linter.unusedSimpArgs false
namespace Go.Proofs
open Go.Shelf Go.RowKit Go.Lib Go.Sort
def Try.sortPt_ren : Go.Shelf.Ren := ⟨fun | 6 => 73 | 15 => 90 | 14 => 89 | 28 => 115 | 29 => 116 | 20 => 107 | 21 => 108 | 22 => 109 | 23 => 110 | 24 => 111 | 25 => 112 | 26 => 113 | 27 => 114 | 46 => 121 | 47 => 122 | 48 => 123 | 49 => 124 | 50 => 125 | 57 => 126 | n => n, fun | 22 => 102 | 24 => 103 | 25 => 105 | 3 => 3 | 39 => 108 | 0 => 0 | 53 => 95 | 55 => 93 | 4 => 4 | 46 => 129 | 45 => 128 | 50 => 133 | 5 => 5 | 9 => 9 | 66 => 139 | 70 => 143 | 76 => 147 | 77 => 148 | n => n, fun | n => n⟩
theorem Try.sortPt : Go.Proofs.SlLaysF0.n6 Try.prog Try.sortPt_ren := {
  mixed := by kernel_rfl
  f6 := ⟨Try.f73.name, by decide, Try.func73.trans (congrArg some (by kernel_rfl))⟩
  f14 := ⟨Try.f89.name, by decide, Try.func89.trans (congrArg some (by kernel_rfl))⟩
  f15 := Try.func90.trans (congrArg some (by kernel_rfl))
  f20 := ⟨Try.f107.name, by decide, Try.func107.trans (congrArg some (by kernel_rfl))⟩
  f21 := ⟨Try.f108.name, by decide, Try.func108.trans (congrArg some (by kernel_rfl))⟩
  f22 := ⟨Try.f109.name, by decide, Try.func109.trans (congrArg some (by kernel_rfl))⟩
  f23 := ⟨Try.f110.name, by decide, Try.func110.trans (congrArg some (by kernel_rfl))⟩
  f24 := ⟨Try.f111.name, by decide, Try.func111.trans (congrArg some (by kernel_rfl))⟩
  f25 := ⟨Try.f112.name, by decide, Try.func112.trans (congrArg some (by kernel_rfl))⟩
  f26 := ⟨Try.f113.name, by decide, Try.func113.trans (congrArg some (by kernel_rfl))⟩
  f27 := ⟨Try.f114.name, by decide, Try.func114.trans (congrArg some (by kernel_rfl))⟩
  f28 := Try.func115.trans (congrArg some (by kernel_rfl))
  f29 := Try.func116.trans (congrArg some (by kernel_rfl))
  f46 := ⟨Try.f121.name, by decide, Try.func121.trans (congrArg some (by kernel_rfl))⟩
  f47 := Try.func122.trans (congrArg some (by kernel_rfl))
  f48 := Try.func123.trans (congrArg some (by kernel_rfl))
  f49 := ⟨Try.f124.name, by decide, Try.func124.trans (congrArg some (by kernel_rfl))⟩
  f50 := ⟨Try.f125.name, by decide, Try.func125.trans (congrArg some (by kernel_rfl))⟩
  f57 := ⟨Try.f126.name, by decide, Try.func126.trans (congrArg some (by kernel_rfl))⟩
  t0 := Try.underlying0
  a0 := Try.isAgg0
  z0 := Try.sizeOf0
  v0 := Try.zeroValue0
  t3 := Try.underlying3
  a3 := Try.isAgg3
  z3 := Try.sizeOf3
  v3 := Try.zeroValue3
  t4 := Try.underlying4
  a4 := Try.isAgg4
  z4 := Try.sizeOf4
  v4 := Try.zeroValue4
  t5 := Try.underlying5
  a5 := Try.isAgg5
  z5 := Try.sizeOf5
  v5 := Try.zeroValue5
  t9 := Try.underlying9
  a9 := Try.isAgg9
  z9 := Try.sizeOf9
  v9 := Try.zeroValue9
  t22 := Try.underlying102
  a22 := Try.isAgg102
  z22 := Try.sizeOf102
  v22 := Try.zeroValue102
  t25 := Try.underlying105
  a25 := Try.isAgg105
  z25 := Try.sizeOf105
  v25 := Try.zeroValue105
  t39 := Try.underlying108
  a39 := Try.isAgg108
  z39 := Try.sizeOf108
  v39 := Try.zeroValue108
  t45 := Try.underlying128
  a45 := Try.isAgg128
  z45 := Try.sizeOf128
  v45 := Try.zeroValue128
  t46 := Try.underlying129
  a46 := Try.isAgg129
  z46 := Try.sizeOf129
  v46 := Try.zeroValue129
  t50 := Try.underlying133
  a50 := Try.isAgg133
  z50 := Try.sizeOf133
  v50 := Try.zeroValue133
  t53 := Try.underlying95
  a53 := Try.isAgg95
  z53 := Try.sizeOf95
  v53 := Try.zeroValue95
  t55 := Try.underlying93
  a55 := Try.isAgg93
  z55 := Try.sizeOf93
  v55 := Try.zeroValue93
  t66 := Try.underlying139
  a66 := Try.isAgg139
  z66 := Try.sizeOf139
  v66 := Try.zeroValue139
  t70 := Try.underlying143
  a70 := Try.isAgg143
  z70 := Try.sizeOf143
  v70 := Try.zeroValue143
  t76 := Try.underlying147
  a76 := Try.isAgg147
  z76 := Try.sizeOf147
  v76 := Try.zeroValue147
  t77 := Try.underlying148
  a77 := Try.isAgg148
  z77 := Try.sizeOf148
  v77 := Try.zeroValue148 }
/-- A point's two cells. -/
def Try.encPt (x : Int × Int) : List Value := [.int .i64 x.1, .int .i64 x.2]
def Try.cmpP (p q : Int × Int) : Int := if p.1 < q.1 ∨ p.1 = q.1 ∧ p.2 < q.2 then -1 else if p = q then 0 else 1
theorem Try.compare74 (p q : Int × Int) (W : World) : Calls Try.prog 74 #[.agg #[.int .i64 p.1, .int .i64 p.2], .agg #[.int .i64 q.1, .int .i64 q.2]] W fun e w' => e = .returned (.int .i64 (Try.cmpP p q)) ∧ ∃ n os', w' = grow (W.drewN n) os' := by
  have heq : ∀ w, (Op.equalIn 10000 103 (.agg #[.int .i64 p.1, .int .i64 p.2]) (.agg #[.int .i64 q.1, .int .i64 q.2])).run Try.prog w = .ok (Av.eqI [p.1, p.2] [q.1, q.2]) w := fun w => Av.Teq103.out.2 [p.1, p.2] [q.1, q.2] w rfl rfl
  have hgd : Try.prog.eqGuardType Try.prog.depth 103 = false := by kernel_rfl
  unfold Try.cmpP
  by_cases h1 : p.1 < q.1
  · rw [if_pos (.inl h1)]
    go_enter Try.func74, Try.ntmps74
    go_wp2
    go_ret
    exact ⟨rfl, 0, _, by rw [alloc_eq_grow, alloc_eq_grow, grow_grow]; rfl⟩
  by_cases h2 : p.1 = q.1
  · by_cases h3 : p.2 < q.2
    · rw [if_pos (.inr ⟨h2, h3⟩)]
      go_enter Try.func74, Try.ntmps74
      go_wp2
      go_ret
      exact ⟨rfl, 0, _, by rw [alloc_eq_grow, alloc_eq_grow, grow_grow]; rfl⟩
    · rw [if_neg (by rintro (h | h); exact h1 h; exact h3 h.2)]
      by_cases h4 : p = q
      · rw [if_pos h4]
        rw [show Av.eqI [p.1, p.2] [q.1, q.2] = true by rw [h4]; simp [Av.eqI]] at heq
        go_enter Try.func74, Try.ntmps74
        go_wp2
        go_ret
        exact ⟨rfl, 0, _, by rw [alloc_eq_grow, alloc_eq_grow, grow_grow]; rfl⟩
      · rw [if_neg h4]
        rw [show Av.eqI [p.1, p.2] [q.1, q.2] = false by unfold Av.eqI; exact decide_eq_false (fun h => h4 (by simp only [List.cons.injEq, and_true] at h; exact Prod.ext h.1 h.2))] at heq
        obtain ⟨p1, p2⟩ := p
        obtain ⟨q1, q2⟩ := q
        dsimp only at h1 h2 h3 h4 heq ⊢
        subst h2
        clear h4
        go_enter Try.func74, Try.ntmps74
        go_wp2
        go_ret
        exact ⟨rfl, 0, _, by rw [alloc_eq_grow, alloc_eq_grow, grow_grow]; rfl⟩
  · rw [if_neg (by rintro (h | h); exact h1 h; exact h2 h.1)]
    have h4 : ¬ p = q := fun h => h2 (by rw [h])
    rw [if_neg h4]
    rw [show Av.eqI [p.1, p.2] [q.1, q.2] = false by unfold Av.eqI; exact decide_eq_false (fun h => h4 (by simp only [List.cons.injEq, and_true] at h; exact Prod.ext h.1 h.2))] at heq
    go_enter Try.func74, Try.ntmps74
    go_wp2
    go_ret
    exact ⟨rfl, 0, _, by rw [alloc_eq_grow, alloc_eq_grow, grow_grow]; rfl⟩
end Go.Proofs

set_option maxHeartbeats 8000000
set_option exponentiation.threshold 100000
set_option maxRecDepth 100000
set_option linter.unusedVariables false
set_option linter.unusedSimpArgs false
namespace Go.Av
open Go Go.Proofs

open Go.RowKit
/-! Plain words of the hull: no program here. -/
def ltP (p q : Pt) : Bool := decide (p.1 < q.1 ∨ p.1 = q.1 ∧ p.2 < q.2)
theorem ltP_irrefl (p : Pt) : ltP p p = false := by unfold ltP; simp
theorem ltP_trans {p q r : Pt} (h1 : ltP p q = true) (h2 : ltP q r = true) : ltP p r = true := by
  unfold ltP at *
  simp only [decide_eq_true_eq] at *
  omega
theorem ltP_total {p q : Pt} (h1 : ltP p q = false) (h2 : ltP q p = false) : p = q := by
  unfold ltP at *
  simp only [decide_eq_false_iff_not] at *
  exact Prod.ext (by omega) (by omega)
def insP (p : Pt) : List Pt → List Pt
  | [] => [p]
  | q :: l => if ltP q p = true then q :: insP p l else p :: q :: l
/-- The list by X, and then by Y. -/
def srt : List Pt → List Pt
  | [] => []
  | p :: l => insP p (srt l)
def upP : List Pt → Prop
  | [] => True
  | p :: l => (∀ q ∈ l, ltP q p = false) ∧ upP l
theorem insP_perm (p : Pt) : ∀ l, (insP p l).Perm (p :: l)
  | [] => List.Perm.refl _
  | q :: l => by
    unfold insP
    split
    · exact (List.Perm.cons q (insP_perm p l)).trans (List.Perm.swap p q l)
    · exact List.Perm.refl _
theorem srt_perm : ∀ l, (srt l).Perm l
  | [] => List.Perm.refl _
  | p :: l => (insP_perm p (srt l)).trans (List.Perm.cons p (srt_perm l))
theorem insP_up (p : Pt) : ∀ {l}, upP l → upP (insP p l)
  | [], _ => ⟨by simp, trivial⟩
  | q :: l, h => by
    unfold insP
    split
    · next hlt =>
      refine ⟨fun r hr => ?_, insP_up p h.2⟩
      rcases List.mem_cons.1 ((insP_perm p l).mem_iff.1 hr) with rfl | hr
      · cases hq : ltP r q with
        | false => rfl
        | true => have := ltP_trans hlt hq; rw [ltP_irrefl] at this; cases this
      · exact h.1 r hr
    · next hge =>
      have hge' : ltP q p = false := by simpa using hge
      refine ⟨fun r hr => ?_, h⟩
      rcases List.mem_cons.1 hr with rfl | hr
      · exact hge'
      · cases hr2 : ltP r p with
        | false => rfl
        | true =>
          have h1 := h.1 r hr
          -- r < p and not q < p, so q is not below r: q = r or r < q
          cases hq : ltP q r with
          | true => have := ltP_trans hq hr2; rw [hge'] at this; cases this
          | false =>
            have := ltP_total h1 hq
            subst this
            rw [hge'] at hr2; cases hr2
theorem srt_up : ∀ l, upP (srt l)
  | [] => trivial
  | p :: l => insP_up p (srt_up l)
/-- There is one sorted order. -/
theorem up_uniq : ∀ {a b : List Pt}, a.Perm b → upP a → upP b → a = b
  | [], b, h, _, _ => (List.Perm.nil_eq h)
  | p :: a, [], h, _, _ => absurd h.length_eq (by simp)
  | p :: a, q :: b, h, ha, hb => by
    have e : p = q := by
      have hp : p ∈ q :: b := h.mem_iff.1 (by simp)
      have hq : q ∈ p :: a := h.mem_iff.2 (by simp)
      rcases List.mem_cons.1 hp with rfl | hp
      · rfl
      · rcases List.mem_cons.1 hq with rfl | hq
        · rfl
        · exact ltP_total (hb.1 p hp) (ha.1 q hq)
    subst e
    rw [up_uniq (List.Perm.cons_inv h) ha.2 hb.2]
theorem srt_eq {a l : List Pt} (h : a.Perm l) (hu : upP a) : a = srt l := up_uniq (h.trans (srt_perm l).symm) hu (srt_up l)
/-- What differs from its forerunner. -/
def dupF (prev : Option Pt) : List Pt → List Pt
  | [] => []
  | p :: l => if prev = some p then dupF (some p) l else p :: dupF (some p) l
def unq (l : List Pt) : List Pt := dupF none (srt l)
/-- The path's turns: the last corner stands first. -/
def popP (p : Pt) : List Pt → List Pt
  | a :: b :: r => if crossP b a p ≤ 0 then popP p (b :: r) else a :: b :: r
  | l => l
def chnF (l : List Pt) : List Pt := (l.foldl (fun st p => p :: popP p st) []).reverse
def hullF (l : List Pt) : List Pt := if (unq l).length < 3 then unq l else (chnF (unq l)).dropLast ++ (chnF (unq l).reverse).dropLast
end Go.Av

set_option maxHeartbeats 8000000
set_option maxRecDepth 100000
set_option linter.unusedVariables false
set_option linter.unusedSimpArgs false
namespace Go.Av
open Go Go.RowKit Go.Proofs Go.Sort Go.Lib
/-! What the library's sort and reversal leave of an own row. -/
theorem own_putK {w : World} {B g cap n sz : Nat} {e : TypeId} {xs : List Value} (h : w.ownsRow B e sz (.slice (some ⟨g, 0, none⟩) n cap) n xs) (ys : Array Value) (hy : ys.size = n * sz) (m : Nat) (os : Array Obj) :
    (grow (putRow id (Sort.ahead w m) g 0 ys) os).ownsRow B e sz (.slice (some ⟨g, 0, none⟩) n cap) n ys.toList ∧ w.grownBy (grow (putRow id (Sort.ahead w m) g 0 ys) os) (some g) := by
  rcases h.2 with ⟨e0, _⟩ | ⟨g', cap', cur, e0, hb, hg, hn, hm, hs, ht⟩
  · cases e0
  · injection e0 with e1 _ e3
    injection e1 with e1
    injection e1 with e1
    subst e1; subst e3
    have hlt : g < w.heap.size := (Array.getElem?_eq_some_iff.1 hg).1
    have hle : n * sz ≤ cap * sz := Nat.mul_le_mul_right _ hn
    refine ⟨⟨by simpa using hy, .inr ⟨g, cap, putCells id 0 ys cur, rfl, hb, ?_, hn, hm, by simpa [putCells] using hs, ?_⟩⟩, ⟨rfl, rfl, rfl, by simp [grow, putRow, mapBlock, Sort.ahead], fun k hk hne => ?_⟩⟩
    · simp only [grow, putRow, mapBlock, Sort.ahead]
      rw [Array.getElem?_append_left (by simpa using hlt)]
      simp [Array.getElem?_modify, hg, onCells]
    · apply List.ext_getElem?
      intro j
      rw [List.getElem?_take, Array.getElem?_toList]
      by_cases hj : j < n * sz
      · have hjc : j < cur.size := by omega
        have hjy : j < ys.size := by omega
        simp only [if_pos hj, putCells, Array.getElem?_mapIdx, Array.getElem?_eq_getElem hjc, Option.map_some]
        rw [if_pos (by omega), Array.getElem?_toList, Array.getElem?_eq_getElem hjy]
        simp [getElem!_pos, hjy]
      · rw [if_neg hj, Array.getElem?_toList, Array.getElem?_eq_none (by omega)]
    · simp only [grow, putRow, mapBlock, Sort.ahead]
      rw [Array.getElem?_append_left (by simpa using hk)]
      have : g ≠ k := fun e => hne (by rw [e])
      simp [Array.getElem?_modify, this]
def ptV (p : Pt) : Value := .agg #[.int .i64 p.1, .int .i64 p.2]
theorem rels_pts {w : World} {ok : Bool → Nat → Prop} : ∀ {l : List Pt} {ys : List Value}, Rels w ok (pts l) ys → ys = l.map ptV
  | [], ys, h => by simpa [pts, Rels] using h
  | p :: l, ys, h => by
    simp only [pts, List.map_cons, Rels] at h
    obtain ⟨y, zs, rfl, hy, hz⟩ := h
    have := rels_pts (l := l) hz
    subst this
    simp only [Rel, Rels] at hy
    obtain ⟨us, rfl, a, r1, rfl, rfl, b, r2, rfl, rfl, rfl⟩ := hy
    rfl
theorem pts_rels {w : World} {ok : Bool → Nat → Prop} : ∀ {l : List Pt}, Rels w ok (pts l) (l.map ptV)
  | [] => by simp [pts, Rels]
  | p :: l => by
    have := pts_rels (w := w) (ok := ok) (l := l)
    simp only [pts] at this
    simp only [pts, List.map_cons, Rels]
    exact ⟨_, _, rfl, by simp only [Rel, Rels]; exact ⟨_, rfl, _, _, rfl, rfl, _, _, rfl, rfl, rfl⟩, this⟩
theorem ptV_size (l : List Pt) : ∀ z ∈ l.map ptV, z.cells.size = 2 := by
  intro z hz
  obtain ⟨p, _, rfl⟩ := List.mem_map.1 hz
  rfl
theorem ptV_one (l : List Pt) : ∀ u ∈ flat (l.map ptV), u.oneCell' = true := by
  intro u hu
  simp only [flat, List.mem_flatMap, List.mem_map] at hu
  obtain ⟨_, ⟨p, _, rfl⟩, hu⟩ := hu
  simp [ptV, Value.cells] at hu
  rcases hu with rfl | rfl <;> rfl
theorem flat_pts (l : List Pt) : flat (l.map ptV) = (flatK Try.encPt 2 l.toArray).toList := by
  apply List.ext_getElem?
  intro t
  have hlen : (flat (l.map ptV)).length = l.length * 2 := by rw [flat_len (ptV_size l), List.length_map]
  by_cases ht : t < l.length * 2
  · have hi : t / 2 < l.length := by omega
    have hb : (flatK Try.encPt 2 l.toArray).toList[t]? = some ((Try.encPt l[t / 2])[t % 2]!) := by
      simp [flatK, ht, hi]
    rw [hb]
    have h1 : (l.map ptV)[t / 2]? = some (ptV l[t / 2]) := by simp [hi]
    have h2 := flat_get (ptV_size l) h1 (t % 2) ((Try.encPt l[t / 2])[t % 2]!) (by
      rcases Nat.mod_two_eq_zero_or_one t with h | h <;> rw [h] <;> simp [ptV, Value.cells, Try.encPt])
    rwa [show t / 2 * 2 + t % 2 = t by omega] at h2
  · rw [List.getElem?_eq_none (by omega), List.getElem?_eq_none (by simp; omega)]
end Go.Av

set_option maxHeartbeats 8000000
set_option maxRecDepth 100000
set_option linter.unusedVariables false
set_option linter.unusedSimpArgs false
namespace Go.Av
open Go Go.RowKit Go.Proofs Go.Sort Go.Lib Go.Shelf
/-! slices.SortFunc and slices.Reverse over an own row of points. -/
theorem cmp_lt (p q : Pt) : ltOf Try.cmpP p q = ltP p q := by
  unfold ltOf Try.cmpP ltP
  split
  · next h => simp [h]
  · next h => split <;> simp [h]
theorem swoP : SWO (ltOf Try.cmpP) where
  irrefl x := by rw [cmp_lt]; exact ltP_irrefl x
  trans x y z h1 h2 := by rw [cmp_lt] at *; exact ltP_trans h1 h2
  ntrans x y z h1 h2 := by rw [cmp_lt] at *; unfold ltP at *; simp only [decide_eq_false_iff_not] at *; omega
theorem holds_pts {w : World} {B g cap : Nat} {e : TypeId} {l : List Pt} (h : w.ownsRow B e 2 (.slice (some ⟨g, 0, none⟩) l.length cap) l.length (flat (l.map ptV))) (hg : w.frozen? ⟨g, 0, none⟩ = false ∧ ∃ cur, w.heap[g]? = some (.cells cur e (0, 0))) : HoldsK Try.encPt 2 w g 0 l.toArray := by
  obtain ⟨_, cur, hg⟩ := hg
  intro j hj
  have hj2 : (flat (l.map ptV))[j]? = some ((flatK Try.encPt 2 l.toArray)[j]!) := by
    rw [flat_pts, Array.getElem?_toList, Array.getElem?_eq_getElem hj, getElem!_pos _ j hj]
  have := h.cells (g := g) rfl j _ hj2
  rw [Addr.add_lit] at this
  exact ⟨this, by simp [World.frozen?, hg]⟩
theorem upP_of : ∀ {l : List Pt}, (∀ i j, i < j → j < l.length → ltP l[j]! l[i]! = false) → upP l
  | [], _ => trivial
  | p :: l, h => by
    refine ⟨fun q hq => ?_, upP_of (fun i j hij hj => ?_)⟩
    · obtain ⟨k, hk, rfl⟩ := List.getElem_of_mem hq
      have := h 0 (k + 1) (by omega) (by simp; omega)
      simpa [getElem!_pos, hk] using this
    · have := h (i + 1) (j + 1) (by omega) (by simp; omega)
      have hi : i < l.length := by omega
      simpa [getElem!_pos, hi, hj] using this
theorem SortFunc_L (l : List Pt) (h0 : l ≠ []) (hn : l.length ≤ 4096) : ConL Try.prog 73 [.v (.func (.func 74) #[] #[])] 103 2 (pts l) (pts (srt l)) := by
  intro w row vs hB hvs
  simp only [Rels, Rel] at hvs
  obtain ⟨y, zs, rfl, rfl, rfl⟩ := hvs
  simp only [RelB] at hB
  obtain ⟨ys, hr, hs, hown, hone, hlim⟩ := hB
  have := rels_pts hr
  subst this
  rw [pts_len] at hown
  rcases hown.2 with ⟨_, h1⟩ | ⟨g, cap, cur, rfl, hb, hg, hn', hm, hsz, ht⟩
  · exact absurd (List.eq_nil_of_length_eq_zero h1) h0
  have hH := holds_pts hown ⟨by simp [World.frozen?, hg], cur, hg⟩
  have eg : ∀ args w, (callFunc 74 args).run Try.prog w = .ok (.enter 74 args) w := enters_of Try.func74 (by kernel_rfl) rfl
  have hcon := AnyQ.slices_SortFunc Try.sortPt 2 Try.isAgg103 Try.sizeOf103 Try.encPt (fun _ => rfl) (fun x v hv => by simp [Try.encPt] at hv; rcases hv with rfl | rfl <;> rfl) Try.cmpP swoP 74 #[] g 0 cap l.toArray w eg (fun m os dk _ x y => Try.compare74 x y _) hH (Array.getElem?_eq_some_iff.1 hg).1 (by simp; omega)
  refine hcon.mono ?_
  rintro en w' ⟨rfl, d', n, os, hp, hso, rfl⟩
  have hsize : d'.size = l.length := by have := hp.1; simpa using this
  have hperm : d'.toList.Perm l := by
    have := hp.2.2
    simp at this
    rwa [List.take_of_length_le (by simp [hsize])] at this
  have hup : upP d'.toList := by
    refine upP_of (fun i j hij hj => ?_)
    have h := hso i j (Nat.zero_le _) hij (by simpa [hsize] using hj)
    rw [cmp_lt] at h
    have hj' : j < d'.size := by simpa using hj
    rw [getElem!_pos d' j hj', getElem!_pos d' i (by omega)] at h
    rw [getElem!_pos d'.toList j (by simpa using hj'), getElem!_pos d'.toList i (by simp; omega)]
    simpa using h
  have hd : d' = (srt l).toArray := by
    apply Array.ext'
    simpa using srt_eq hperm hup
  subst hd
  have hsl : (srt l).length = l.length := (srt_perm l).length_eq
  obtain ⟨q1, q2⟩ := own_putK hown (flatK Try.encPt 2 (srt l).toArray) (by simp [hsl]) n os
  refine ⟨rfl, q2, ?_⟩
  simp only [RelB]
  rw [← flat_pts] at q1
  refine ⟨(srt l).map ptV, pts_rels, ptV_size _, ?_, ptV_one _, by rw [pts_len, hsl]; rwa [pts_len] at hlim⟩
  rw [pts_len, hsl]
  exact q1
end Go.Av

set_option maxHeartbeats 8000000
set_option maxRecDepth 100000
set_option linter.unusedVariables false
set_option linter.unusedSimpArgs false
namespace Go.Proofs
open Go.Shelf Go.RowKit Go.Lib Go.Sort
def Try.revPt_ren : Go.Shelf.Ren := ⟨fun | 35 => 57 | n => n, fun | 22 => 22 | 23 => 28 | 3 => 3 | 4 => 4 | 0 => 0 | n => n, fun | n => n⟩
theorem Try.revPt : Go.Proofs.SlLaysE0.n35 Try.prog Try.revPt_ren := {
  mixed := by kernel_rfl
  f35 := ⟨Try.f57.name, by decide, Try.func57.trans (congrArg some (by kernel_rfl))⟩
  t0 := Try.underlying0
  a0 := Try.isAgg0
  z0 := Try.sizeOf0
  v0 := Try.zeroValue0
  t3 := Try.underlying3
  a3 := Try.isAgg3
  z3 := Try.sizeOf3
  v3 := Try.zeroValue3
  t4 := Try.underlying4
  a4 := Try.isAgg4
  z4 := Try.sizeOf4
  v4 := Try.zeroValue4
  t22 := Try.underlying22
  a22 := Try.isAgg22
  z22 := Try.sizeOf22
  v22 := Try.zeroValue22 }
end Go.Proofs
namespace Go.Av
open Go Go.RowKit Go.Proofs Go.Sort Go.Lib Go.Shelf
theorem Reverse_L (l : List Pt) (h0 : l ≠ []) (hn : l.length ≤ 4096) : ConL Try.prog 57 [] 28 2 (pts l) (pts l.reverse) := by
  intro w row vs hB hvs
  simp only [Rels] at hvs
  subst hvs
  simp only [RelB] at hB
  obtain ⟨ys, hr, hs, hown, hone, hlim⟩ := hB
  have := rels_pts hr
  subst this
  rw [pts_len] at hown
  rcases hown.2 with ⟨_, h1⟩ | ⟨g, cap, cur, rfl, hb, hg, hn', hm, hsz, ht⟩
  · exact absurd (List.eq_nil_of_length_eq_zero h1) h0
  have hH := holds_pts hown ⟨by simp [World.frozen?, hg], cur, hg⟩
  have hcon := AnyQ.slices_Reverse Try.revPt 2 Try.isAgg28 Try.sizeOf28 Try.encPt (fun _ => rfl) (fun x v hv => by simp [Try.encPt] at hv; rcases hv with rfl | rfl <;> rfl) g 0 cap l.toArray w hH (by simp; omega)
  refine hcon.mono ?_
  rintro en w' ⟨rfl, n, rfl⟩
  have hsl : l.reverse.length = l.length := List.length_reverse
  have hw : putRowK Try.encPt 2 (Sort.ahead w n) g 0 l.toArray.reverse = grow (putRow id (Sort.ahead w n) g 0 (flatK Try.encPt 2 l.reverse.toArray)) #[] := by
    have hg0 : ∀ W : World, grow W #[] = W := fun W => by cases W; simp [grow]
    rw [hg0]
    simp [putRowK]
  rw [hw]
  obtain ⟨q1, q2⟩ := own_putK hown (flatK Try.encPt 2 l.reverse.toArray) (by simp) n #[]
  refine ⟨rfl, q2, ?_⟩
  simp only [RelB]
  rw [← flat_pts] at q1
  refine ⟨l.reverse.map ptV, pts_rels, ptV_size _, ?_, ptV_one _, by rw [pts_len, hsl]; rwa [pts_len] at hlim⟩
  rw [pts_len, hsl]
  exact q1
end Go.Av

set_option linter.unusedVariables false
set_option linter.unusedSimpArgs false
namespace Go.Av
open Go Go.RowKit
section
variable {P : Program} {N : Nat} {E : Env} {H : Hp} {Q : Exit → Env → Hp → Prop} {ops : Array Oper} {rest : List Oper} {c : Code}
theorem y_maxl {x y : Operand} {t ty : TypeId} {k : IntKind} {a b : Int} (hx : evT E x = some (.p (.v (.int k a)))) (hy : evT E y = some (.p (.v (.int k b)))) (h : b ≤ a) : Yl P (.call { callee := .builtin .max, args := #[x, y], argTypes := #[t, t] }) ty E H (.p (.v (.int k a))) .no := by
  have := y_max (P := P) (t := t) (t' := t) (ty := ty) (H := H) hx hy
  have e : (if a < b then b else a) = a := by rw [if_neg (by omega)]
  first | rwa [e] at this | (have e2 : (if b < a then a else b) = a := by (split <;> omega); rwa [e2] at this)
theorem y_maxr {x y : Operand} {t ty : TypeId} {k : IntKind} {a b : Int} (hx : evT E x = some (.p (.v (.int k a)))) (hy : evT E y = some (.p (.v (.int k b)))) (h : a ≤ b) : Yl P (.call { callee := .builtin .max, args := #[x, y], argTypes := #[t, t] }) ty E H (.p (.v (.int k b))) .no := by
  have := y_max (P := P) (t := t) (t' := t) (ty := ty) (H := H) hx hy
  have e : (if a < b then b else a) = b := by split <;> omega
  first | rwa [e] at this | (have e2 : (if b < a then a else b) = b := by (split <;> omega); rwa [e2] at this)
theorem nil_rep {okA : Acc} {w0 : World} {ρ : Nat → Value} {tmps : Array Value} {w : World} (r : Rep okA w0 N ρ E H tmps w) {i : Nat} (e : TypeId) (k : IntKind) (hE : lk i E = some (.p (.v (.slice none 0 0)))) (hf : frE i E = true) (hN : Nat.blt i N = true) :
    Rep okA w0 N (upd ρ i (.slice none 0 0)) ((i, .vec i) :: E) ((i, .vi e k []) :: H) tmps w := by
  have hr := r.row_new (w' := w) (d := i) (m := .vi e k []) (y := .slice none 0 0) ⟨rfl, rfl, rfl, Nat.le_refl _, fun _ _ _ => rfl⟩ (fun b hb => by simp [blk] at hb) hf (pH_lt r hN) (fun _ => by
    simp only [RelB, List.length_nil]
    exact ⟨World.ownsRow_nil w _ e 1, by simp [lim]⟩)
  exact hr.set_env hE (fun y hy => by simp only [RelT, Rel] at hy ⊢; rw [upd_same]; exact hy)
/-- A nil slice is told as a row of the call's own. -/
theorem nil_C {i : Nat} (e : TypeId) (k : IntKind) (hE : lk i E = some (.p (.v (.slice none 0 0)))) (hf : frE i E = true) (hN : Nat.blt i N = true) (kk : Tr P N c ((i, .vec i) :: E) ((i, .vi e k []) :: H) Q) : Tr P N c E H Q := by
  unfold Tr at kk ⊢
  intro okA w0 ρ tmps w r
  exact kk okA w0 _ tmps w (nil_rep r e k hE hf hN)
theorem nil_L {i : Nat} (e : TypeId) (k : IntKind) (hE : lk i E = some (.p (.v (.slice none 0 0)))) (hf : frE i E = true) (hN : Nat.blt i N = true) (kk : TrL P N ops rest ((i, .vec i) :: E) ((i, .vi e k []) :: H) Q) : TrL P N ops rest E H Q := by
  unfold TrL at kk ⊢
  intro okA w0 ρ tmps w r
  exact kk okA w0 _ tmps w (nil_rep r e k hE hf hN)
theorem le_rep {okA : Acc} {w0 : World} {ρ : Nat → Value} {tmps : Array Value} {w : World} (r : Rep okA w0 N ρ E H tmps w) {i : Nat} {x y : PV} (hE : lk i E = some (.p x)) (h : Le x y) : Rep okA w0 N ρ ((i, .p y) :: E) H tmps w :=
  r.set_env hE (fun u hu => by simp only [RelT] at hu ⊢; exact Le.rel (fun b hb => okF.tag hb) h u hu)
/-- Less is told of a temporary. -/
theorem le_C {i : Nat} {x : PV} (y : PV) (hE : lk i E = some (.p x)) (h : Le x y) (kk : Tr P N c ((i, .p y) :: E) H Q) : Tr P N c E H Q := by
  unfold Tr at kk ⊢
  intro okA w0 ρ tmps w r
  exact kk okA w0 _ tmps w (le_rep r hE h)
theorem le_L {i : Nat} {x : PV} (y : PV) (hE : lk i E = some (.p x)) (h : Le x y) (kk : TrL P N ops rest ((i, .p y) :: E) H Q) : TrL P N ops rest E H Q := by
  unfold TrL at kk ⊢
  intro okA w0 ρ tmps w r
  exact kk okA w0 _ tmps w (le_rep r hE h)
theorem le_D {sx : Nat} {plan : List (Nat × Bool)} {ob ph : Bool} {St : List Nat} {i : Nat} {x : PV} (y : PV) (hE : lk i E = some (.p x)) (h : Le x y) (kk : TrD P N ops sx plan ob ph St ((i, .p y) :: E) H Q) : TrD P N ops sx plan ob ph St E H Q := by
  unfold TrD at kk ⊢
  intro okA w0 ρ tmps w w1 stab listed r
  exact kk okA w0 _ tmps w w1 stab listed (le_rep r hE h)
/-- A row of the call's own is from here on only read: in a region that draws its order. -/
theorem seal_D {sx : Nat} {plan : List (Nat × Bool)} {ob : Bool} {St : List Nat} {i h : Nat} {e : TypeId} {k : IntKind} {l : List Int} {H0 : Hp} (hE : lk i E = some (.vec h)) (hm : hk h H = some (.vi e k l)) (hp : pH h = false) (hd : delH h H = some H0) (kk : TrD P N ops sx plan ob false St ((i, .p (.si true k l)) :: E) H0 Q) : TrD P N ops sx plan ob false St E H Q := by
  unfold TrD at kk ⊢
  intro okA w0 ρ tmps w w1 stab listed r hpl h1 h2 h3 h4 h5
  obtain ⟨r1, hr⟩ := sealed_vi r hm hp hd
  exact kk okA w0 ρ tmps w w1 stab listed (r1.set_env hE (fun y hy => by simp only [RelT] at hy ⊢; subst hy; exact hr)) hpl h1
    (fun ho h' hs m b hm' hb => h2 ho h' hs m b (delH_spec hd h' m hm').2 hb) (fun ho h' m b hm' hn hb => h3 ho h' m b (delH_spec hd h' m hm').2 hn hb) (fun _ e => by cases e) h5
end
theorem Con.le {P : Program} {f : FuncId} {args : List PV} {r r' : PV} (h : Con P f args r) (hl : Le r r') : Con P f args r' := by
  unfold Con at h ⊢
  intro okA w vs hvs
  refine (h okA w vs hvs).mono fun e w' ⟨y, he, hr, hb⟩ => ⟨y, he, ?_, hb⟩
  exact Le.rel (fun b hb => ⟨hb.1, hb.2.elim .inl (fun h => absurd h.1 (by simp))⟩) hl y hr
end Go.Av

set_option linter.unusedVariables false
set_option linter.unusedSimpArgs false
/-! Regions that draw their order, every order gone through: for operations that make memory at any time. -/
namespace Go.Av
open Go Go.RowKit
section
variable {P : Program} {N : Nat} {E : Env} {H : Hp} {Q : Exit → Env → Hp → Prop} {ops : Array Oper} {sx fuel : Nat} {listed : Array Bool} {ob ph : Bool} {St : List Nat}
def TrX (P : Program) (N : Nat) (ops : Array Oper) (x fuel : Nat) (listed : Array Bool) (op ph : Bool) (St : List Nat) (E : Env) (H : Hp) (Q : Exit → Env → Hp → Prop) : Prop :=
  ∀ okA w0 ρ tmps w (w1 : World) (stab : Nat → Prop), Rep okA w0 N ρ E H tmps w →
    (op = true → ∀ b, stab b → b < w.heap.size ∧ w.heap[b]? = w1.heap[b]?) → (op = true → ∀ h ∈ St, ∀ m b, hk h H = some m → blk (ρ h) = some b → stab b) → (op = true → ∀ h m b, hk h H = some m → h ∉ St → blk (ρ h) = some b → ¬ stab b) →
    (op = true → ph = true → ∀ f b, okF okA w0.heap.size ρ H w.heap.size f b → stab b) → listed.getD x false = !op →
    wpAnyS P .any ops (Post okA w0 N Q) x (fun W => ∀ b, stab b → W.heap[b]? = w1.heap[b]?) fuel listed ⟨tmps, []⟩ w
def TrI (P : Program) (N : Nat) (ops : Array Oper) (x fuel : Nat) (listed : Array Bool) (i : Nat) (op ph : Bool) (St : List Nat) (E : Env) (H : Hp) (Q : Exit → Env → Hp → Prop) : Prop :=
  ∀ okA w0 ρ tmps w (w1 : World) (stab : Nat → Prop), Rep okA w0 N ρ E H tmps w →
    (op = true → ∀ b, stab b → b < w.heap.size ∧ w.heap[b]? = w1.heap[b]?) → (op = true → ∀ h ∈ St, ∀ m b, hk h H = some m → blk (ρ h) = some b → stab b) → (op = true → ∀ h m b, hk h H = some m → h ∉ St → blk (ρ h) = some b → ¬ stab b) →
    (op = true → ph = true → ∀ f b, okF okA w0.heap.size ρ H w.heap.size f b → stab b) → listed.getD x false = !op →
    wpOp P ops (Post okA w0 N Q) i (fun a' w' => ((listed.setIfInBounds i true).getD x false = false → (fun W : World => ∀ b, stab b → W.heap[b]? = w1.heap[b]?) w') ∧ wpAnyS P .any ops (Post okA w0 N Q) x (fun W => ∀ b, stab b → W.heap[b]? = w1.heap[b]?) fuel (listed.setIfInBounds i true) a' w') ⟨tmps, []⟩ w
def AllX (P : Program) (N : Nat) (ops : Array Oper) (x fuel : Nat) (listed : Array Bool) (op ph : Bool) (St : List Nat) (E : Env) (H : Hp) (Q : Exit → Env → Hp → Prop) : List Nat → Prop
  | [] => True
  | i :: r => TrI P N ops x fuel listed i op ph St E H Q ∧ AllX P N ops x fuel listed op ph St E H Q r
theorem AllX.mem : ∀ {rs : List Nat}, AllX P N ops sx fuel listed ob ph St E H Q rs → ∀ i ∈ rs, TrI P N ops sx fuel listed i ob ph St E H Q
  | [], _, i, hi => by simp at hi
  | j :: r, h, i, hi => by
    rcases List.mem_cons.1 hi with rfl | hi
    · exact h.1
    · exact h.2.mem i hi
theorem xAll {rs : List Nat} (hr : Region.ready .any ops listed = rs) (hne : rs.isEmpty = false) (h : AllX P N ops sx fuel listed ob ph St E H Q rs) : TrX P N ops sx (fuel + 1) listed ob ph St E H Q := by
  intro okA w0 ρ tmps w w1 stab r h1 h2 h3 h4 h5
  refine wpAnyS_all hr (by intro e; rw [e] at hne; cases hne) (fun i hi => ?_)
  exact h.mem i hi okA w0 ρ tmps w w1 stab r h1 h2 h3 h4 h5
theorem xEnd (hr : (Region.ready .any ops listed).isEmpty = true) (h : Q .normal E H) : TrX P N ops sx fuel listed ob ph St E H Q := by
  intro okA w0 ρ tmps w w1 stab r _ _ _ _ _
  exact wpAnyS_done (List.isEmpty_iff.1 hr) ⟨by simp, by simp, rfl, ρ, E, H, r, h⟩ _
theorem xDraw {id : Nat} {l : List Oper} (sx : Nat) (St : List Nat) (hm : P.follows .mixedOrders = true)
    (h : TrX P N l.toArray sx l.length (Array.replicate l.toArray.size false) true true St E H Q) : Tr P N (.region id l.toArray true) E H Q := by
  unfold Tr
  intro okA w0 ρ tmps w r
  have r' : Rep okA w0 N ρ E H tmps { w with drawn := w.drawn + 1 } := r.world ((Below.refl _ _).drew)
  refine wp_region_any hm (wpAny_of_S (x := sx) (T := fun W => ∀ b, (b < w.heap.size ∧ ∀ h m, hk h H = some m → h ∉ St → blk (ρ h) ≠ some b) → W.heap[b]? = w.heap[b]?) _ _ _ _ ?_)
  have := h okA w0 ρ tmps _ w (fun b => b < w.heap.size ∧ ∀ h m, hk h H = some m → h ∉ St → blk (ρ h) ≠ some b) r' (fun _ b hb => ⟨hb.1, rfl⟩) ?_ ?_ ?_ ?_
  · simpa using this
  · intro _ h hs m b hm hb
    refine ⟨(r.blk_lt hm hb).2, fun h' m' hm' hn e => ?_⟩
    exact r.disj h h' m m' b hm hm' (fun e => hn (e ▸ hs)) hb e
  · intro _ h m b hm hn hb hc
    exact hc.2 h m hm hn hb
  · intro _ _ f b hb
    exact ⟨hb.1, fun h m hm hn => hb.2.1 h m hm⟩
  · rw [Array.getD_eq_getD_getElem?]
    cases hq : (Array.replicate l.toArray.size false)[sx]? with
    | none => rfl
    | some v =>
      rw [Array.getElem?_replicate] at hq
      split at hq
      · simp at hq; subst hq; rfl
      · cases hq
/-- Taken first: it yields the same whenever it comes up. -/
theorem xY {i d : Nat} {op : Op} {ty : TypeId} {pos : String} {af : Array Edge} {g : Option (Nat × Bool)} {x : TV} {rd : Rd} (hi : ops[i]? = some ⟨some d, op, ty, pos, af, g⟩) (h : Yl P op ty E H x rd) (hg : wantB ops E g = some true) (hrd : rdOk ops sx i ob ph St rd = true) (hin : rdIn H rd = true) (hd : Nat.blt d N = true)
    (hf : (Region.noSelect ops && (Region.free .any ops listed i && (Region.ready .any ops listed).contains i)) = true)
    (k : TrX P N ops sx fuel (listed.setIfInBounds i true) ob ph St ((d, x) :: E) H Q) : TrX P N ops sx (fuel + 1) listed ob ph St E H Q := by
  intro okA w0 ρ tmps w w1 stab r h1 h2 h3 h4 h5
  simp only [Bool.and_eq_true] at hf
  obtain ⟨hs, hf, hr⟩ := hf
  have hne := rdOk_ne hrd
  obtain ⟨y, hrel, S', hS1, hS2, hS3, hrun⟩ := yields_if r (o := ⟨some d, op, ty, pos, af, g⟩) (i := i) rfl rfl h hrd (rdIn_spec hin) h1 h2 h4
  refine wpAnyS_take hi hne hs hf hr post_panic hS1 (.inl ⟨want_spec r hg, hrun⟩) hS2 (fun h => fun b hb => (h1 (by rw [h5] at h; simpa using h) b hb).2) (hS3.imp id (fun e => by rw [h5, e]; rfl)) ?_
  exact k okA w0 ρ _ w w1 stab (r.put (Nat.le_of_ble_eq_true hd) hrel) h1 h2 h3 h4 (by rw [getD_set_ne false hne]; exact h5)
theorem iY {i d : Nat} {op : Op} {ty : TypeId} {pos : String} {af : Array Edge} {g : Option (Nat × Bool)} {x : TV} {rd : Rd} (hi : ops[i]? = some ⟨some d, op, ty, pos, af, g⟩) (h : Yl P op ty E H x rd) (hg : wantB ops E g = some true) (hd : Nat.blt d N = true) (hx : Nat.beq i sx = false)
    (k : TrX P N ops sx fuel (listed.setIfInBounds i true) ob ph St ((d, x) :: E) H Q) : TrI P N ops sx fuel listed i ob ph St E H Q := by
  intro okA w0 ρ tmps w w1 stab r h1 h2 h3 h4 h5
  have hne : i ≠ sx := fun e => by subst e; rw [Nat.beq_refl] at hx; cases hx
  unfold Yl at h
  obtain ⟨y, hrun, hrel⟩ := h okA w0 N ρ tmps w r
  unfold wpOp
  simp only [hi]
  rw [if_pos (want_spec r hg)]
  refine .inl ?_
  have := hrun w (rd.same_refl _ _ _) (some d) pos af g
  simp only [Oper.wp, this, Oper.upon]
  exact ⟨fun h b hb => (h1 (notT h5 hne h) b hb).2, k okA w0 ρ _ w w1 stab (r.put (Nat.le_of_ble_eq_true hd) hrel) h1 h2 h3 h4 (by rw [getD_set_ne false hne]; exact h5)⟩
theorem iE {i : Nat} {dst : Option Tmp} {op : Op} {ty : TypeId} {pos : String} {af : Array Edge} {g : Option (Nat × Bool)} {E' : Env} {H' : Hp} {W : List Nat} (hi : ops[i]? = some ⟨dst, op, ty, pos, af, g⟩) (h : Eff P N dst op ty E H E' H' W) (hg : wantB ops E g = some true) (hW : (!(Nat.beq i sx) && W.all fun h => !St.any (Nat.beq h)) = true)
    (k : TrX P N ops sx fuel (listed.setIfInBounds i true) ob false St E' H' Q) : TrI P N ops sx fuel listed i ob ph St E H Q := by
  intro okA w0 ρ tmps w w1 stab r h1 h2 h3 h4 h5
  rw [Bool.and_eq_true] at hW
  obtain ⟨hx, hW⟩ := hW
  have hne : i ≠ sx := fun e => by subst e; rw [Nat.beq_refl] at hx; cases hx
  have hWS : ∀ h ∈ W, h ∉ St := by
    intro h hw hst
    have := List.all_eq_true.1 hW h hw
    simp only [Bool.not_eq_true', List.any_eq_false] at this
    exact this h hst (by simp)
  unfold Eff at h
  obtain ⟨n, y, ρ', w', hrun, hn, hr', hfr, hsz, hag, hold, hnew⟩ := h okA w0 ρ tmps w r
  have h1' : ob = true → ∀ b, stab b → b < w'.heap.size ∧ w'.heap[b]? = w1.heap[b]? := fun ho b hb => by
    obtain ⟨hb1, hb2⟩ := h1 ho b hb
    refine ⟨Nat.lt_of_lt_of_le hb1 hsz, ?_⟩
    rw [hfr b hb1 (fun h hw m hm e => h3 ho h m b hm (hWS h hw) e hb)]
    exact hb2
  have hk' := k okA w0 ρ' _ w' w1 stab hr' h1' (fun ho h hs m b hm hb => by
      have hnw : h ∉ W := fun hw => hWS h hw hs
      obtain ⟨m0, hm0⟩ := hold h m hm hnw
      rw [hag h hnw] at hb
      exact h2 ho h hs m0 b hm0 hb)
    (fun ho h m b hm hn' hb hst => by
      by_cases hw : h ∈ W
      · rcases hnew h hw b hb with h5 | ⟨m0, h5, h6⟩
        · have := (h1 ho b hst).1; omega
        · exact h3 ho h m0 b h5 hn' h6 hst
      · obtain ⟨m0, hm0⟩ := hold h m hm hw
        rw [hag h hw] at hb
        exact h3 ho h m0 b hm0 hn' hb hst) (fun _ e => by cases e) (by rw [getD_set_ne false hne]; exact h5)
  unfold wpOp
  simp only [hi]
  rw [if_pos (want_spec r hg)]
  refine .inl ?_
  have := hrun pos af g
  simp only [Oper.wp, this]
  rcases hn with rfl | ⟨rfl, rfl⟩
  · simp only [Oper.upon]
    rw [put_nil]
    exact ⟨fun h b hb => (h1' (notT h5 hne h) b hb).2, hk'⟩
  · simp only [Oper.upon]
    rw [put_nil]
    exact ⟨fun h b hb => (h1' (notT h5 hne h) b hb).2, hk'⟩
theorem iC {i d : Nat} {f : FuncId} {fn : Func} {os : Array Operand} {ts : Array TypeId} {ty : TypeId} {pos : String} {af : Array Edge} {g : Option (Nat × Bool)} {args xs : List PV} {res : PV} (hi : ops[i]? = some ⟨some d, .call { callee := .value (.func f), args := os, argTypes := ts }, ty, pos, af, g⟩)
    (hf : P.funcs[f]? = some fn) (hn : (fn.name == "runtime.NumGoroutine") = false) (hb : fn.body.isNone = false) (hc : Con P f args res) (hx : evs E os.toList = some xs) (hle : Les xs args) (hg : wantB ops E g = some true) (hd : (Nat.blt d N && !(Nat.beq i sx)) = true)
    (k : TrX P N ops sx fuel (listed.setIfInBounds i true) ob false St ((d, .p res) :: E) H Q) : TrI P N ops sx fuel listed i ob ph St E H Q := by
  intro okA w0 ρ tmps w w1 stab r h1 h2 h3 h4 h5
  rw [Bool.and_eq_true] at hd
  obtain ⟨hd, hx'⟩ := hd
  have hne : i ≠ sx := fun e => by subst e; rw [Nat.beq_refl] at hx'; cases hx'
  have hcall := call_rep r hc hx hle
  have hrun : (execOp (Act.eval ⟨tmps, []⟩) ⟨some d, .call { callee := .value (.func f), args := os, argTypes := ts }, ty, pos, af, g⟩).run P w = .ok (.enter f (os.map (Act.eval ⟨tmps, []⟩))) w := by
    have hn' : ¬ fn.name = "runtime.NumGoroutine" := by simpa using hn
    have hb' : ¬ fn.body = none := by intro h; rw [h] at hb; simp at hb
    simp [execOp, resolve, Deferred.ofValue, Act.eval, invoke, callFunc, hf, hn', hb']
  unfold wpOp
  simp only [hi]
  rw [if_pos (want_spec r hg)]
  refine .inl ?_
  simp only [Oper.wp, hrun, Oper.upon]
  have harr : os.map (Act.eval ⟨tmps, []⟩) = (os.toList.map (Act.eval ⟨tmps, []⟩)).toArray := by apply Array.ext'; simp
  rw [harr]
  refine hcall.mono fun e w' ⟨y, he, hr', hrel, hbel⟩ => ?_
  subst he
  have h1' : ob = true → ∀ b, stab b → b < w'.heap.size ∧ w'.heap[b]? = w1.heap[b]? := fun ho b hb => ⟨Nat.lt_of_lt_of_le (h1 ho b hb).1 hbel.size, by rw [hbel.block b (h1 ho b hb).1]; exact (h1 ho b hb).2⟩
  exact ⟨fun h b hb => (h1' (notT h5 hne h) b hb).2, k okA w0 ρ _ w' w1 stab (hr'.put (Nat.le_of_ble_eq_true hd) (x := .p res) (by simpa only [RelT] using hrel)) h1' h2 h3 (fun _ e => by cases e) (by rw [getD_set_ne false hne]; exact h5)⟩
/-- What is told behind a piece of code, whatever way it took. -/
def subQ (E1 : Env) (H1 : Hp) : Exit → Env → Hp → Prop := fun e E' H' => e = .normal ∧ (∀ i y, lk i E1 = some y → lk i E' = some y) ∧ (∀ i m, hk i H1 = some m → hk i H' = some m)
theorem cut_ {x y : Code} (E1 : Env) (H1 : Hp) (h1 : Tr P N x E H (subQ E1 H1)) (h2 : Tr P N y E1 H1 Q) : Tr P N x E H (then_ (fun E H => Tr P N y E H Q) Q) := by
  refine h1.conseq fun e E' H' hq => ?_
  obtain ⟨rfl, h3, h4⟩ := hq
  exact h2.sub h3 h4
end
attribute [irreducible] TrX TrI
end Go.Av

set_option maxHeartbeats 8000000
set_option exponentiation.threshold 100000
set_option maxRecDepth 100000
set_option linter.unusedVariables false
set_option linter.unusedSimpArgs false
namespace Go.Av
open Go Go.Proofs

open Go.RowKit
section
variable {P : Program} {N : Nat} {E : Env} {H : Hp}
theorem nil_Cp {c : Code} {Q : Exit → Env → Hp → Prop} {i : Nat} (e : TypeId) (sz : Nat) (hE : lk i E = some (.p (.v (.slice none 0 0)))) (hf : frE i E = true) (hN : Nat.blt i N = true) (kk : Tr P N c ((i, .vec i) :: E) ((i, .vs e sz []) :: H) Q) : Tr P N c E H Q := by
  unfold Tr at kk ⊢
  intro okA w0 ρ tmps w r
  have hr := r.row_new (w' := w) (d := i) (m := .vs e sz []) (y := .slice none 0 0) ⟨rfl, rfl, rfl, Nat.le_refl _, fun _ _ _ => rfl⟩ (fun b hb => by simp [blk] at hb) hf (pH_lt r hN) (fun _ => by
    simp only [RelB, List.length_nil]
    exact ⟨[], by simp only [Rels], by simp, by simpa [flat] using World.ownsRow_nil w _ e sz, by simp [flat], by simp [lim]⟩)
  exact kk okA w0 _ tmps w (hr.set_env hE (fun y hy => by simp only [RelT, Rel] at hy ⊢; rw [upd_same]; exact hy))
end
def chnS (l : List Pt) (k : Nat) : List Pt := (l.take k).foldl (fun st p => p :: popP p st) []
theorem chnS_step {l : List Pt} {k : Nat} (h : k < l.length) : chnS l (k + 1) = at_ l k :: popP (at_ l k) (chnS l k) := by
  have e : at_ l k = l[k] := by simp [at_, List.getD, h]
  unfold chnS
  rw [List.take_succ_eq_append_getElem h, List.foldl_append, e]
  rfl
theorem chnS_end {l : List Pt} : (chnS l l.length).reverse = chnF l := by unfold chnS chnF; rw [List.take_length]
theorem popP_len (p : Pt) : ∀ s, (popP p s).length ≤ s.length
  | [] => Nat.le_refl _
  | [a] => Nat.le_refl _
  | a :: b :: r => by
    unfold popP
    split
    · have := popP_len p (b :: r); simp only [List.length_cons] at *; omega
    · exact Nat.le_refl _
theorem popP_all (p : Pt) : ∀ {s}, s.all smB = true → (popP p s).all smB = true
  | [], h => h
  | [a], h => h
  | a :: b :: r, h => by
    unfold popP
    split
    · refine popP_all p ?_
      simp only [List.all_cons, Bool.and_eq_true] at h ⊢
      exact h.2
    · exact h
theorem rev_at1 (a : Pt) (s : List Pt) : at_ (a :: s).reverse (((a :: s).reverse.length : Int) - 1) = a := by
  unfold at_
  rw [List.length_reverse, List.length_cons, show ((s.length + 1 : Nat) : Int) - 1 = (s.length : Nat) by omega, Int.toNat_natCast, List.reverse_cons, List.getD_eq_getElem?_getD, List.getElem?_append_right (by simp), List.length_reverse, Nat.sub_self]
  rfl
theorem rev_at2 (a b : Pt) (s : List Pt) : at_ (a :: b :: s).reverse (((a :: b :: s).reverse.length : Int) - 2) = b := by
  unfold at_
  rw [List.length_reverse, List.length_cons, List.length_cons, show ((s.length + 1 + 1 : Nat) : Int) - 2 = (s.length : Nat) by omega, Int.toNat_natCast, List.reverse_cons, List.getD_eq_getElem?_getD, List.getElem?_append_left (by simp), List.reverse_cons, List.getElem?_append_right (by simp), List.length_reverse, Nat.sub_self]
  rfl
theorem rev_take (a : Pt) (s : List Pt) : (a :: s).reverse.take (s.length) = s.reverse := by
  rw [List.reverse_cons, List.take_append_of_le_length (by simp), List.take_of_length_le (by simp)]
theorem chain_c (l : List Pt) (hs : l.all smB = true) (hn : l.length ≤ 4096) : ConRM Try.prog 56 [.ss false 2 (pts l)] (.vs 28 2 (pts (chnF l))) := by
  refine conRM_of Try.func56 rfl rfl rfl (noT_ps l) rfl (stab_pts _) ?_
  repeat (first | refine seq_ ?_ | refine region_ ?_ | refine nil_ ?_ | refine block_ ?_ | refine stepY (y_move rfl) rfl ?_ | refine stepY (y_assign rfl) rfl ?_ | refine stepY (y_len_ps rfl) rfl ?_)
  refine nil_Cp (i := 3) 28 2 rfl rfl rfl ?_
  refine loop_ (α := Nat) (fun k => ([(3, .vec 3), (6, .p (.ss false 2 (pts l))), (7, .p (I l.length)), (8, .p (I k))], [(3, .vs 28 2 (pts (chnS l k).reverse))])) (fun k => k ≤ l.length ∧ (chnS l k).length ≤ k ∧ (chnS l k).all smB = true) (fun k => l.length - k) 0 ⟨by omega, Nat.le_refl _, rfl⟩ ?_ ?_ ?_
  · (repeat (first | exact sub_nil | refine sub_cons rfl ?_))
  · (repeat (first | exact subH_nil | refine subH_cons rfl ?_))
  rintro k ⟨hk, hc1, hc2⟩
  by_cases h : k < l.length
  · have hp := at_all hs (n := (k : Int)) (by omega) (by omega)
    have hstep := chnS_step h
    have hpl := popP_len (at_ l k) (chnS l k)
    have hpa := popP_all (at_ l k) hc2
    repeat (first | refine seq_ ?_ | refine region_ ?_ | refine nil_ ?_ | refine skip_ ?_ | refine block_ ?_ | refine cond_t rfl ?_ | refine stepY (y_load_rcA rfl rfl) rfl ?_ | refine stepY (y_index_ps rfl rfl (by omega) (by omega)) rfl ?_ | refine stepY (y_cmpT rfl rfl rfl (by omega)) rfl ?_ | refine stepE (e_alloc rfl rfl rfl) ?_ | refine stepE (e_store rfl rfl rfl rfl rfl rfl rfl) ?_)
    generalize hst : chnS l k = st at *
    generalize hpp : at_ l k = p at *
    refine loop_ (α := List Pt) (fun s => ([(3, .vec 3), (5, .ptr 5 0), (6, .p (.ss false 2 (pts l))), (7, .p (I l.length)), (8, .p (I k))], [(3, .vs 28 2 (pts s.reverse)), (5, .bx [I p.1, I p.2])])) (fun s => popP p s = popP p st ∧ s.all smB = true ∧ s.length ≤ st.length) (fun s => s.length) st ⟨rfl, hc2, Nat.le_refl _⟩ ?_ ?_ ?_
    · (repeat (first | exact sub_nil | refine sub_cons rfl ?_))
    · (repeat (first | exact subH_nil | refine subH_cons rfl ?_))
    rintro s ⟨hs1, hs2, hs3⟩
    match s, hs1, hs2, hs3 with
    | a :: b :: r, hs1, hs2, hs3 =>
      have e1 := rev_at1 a (b :: r)
      have e2 := rev_at2 a b r
      have hlen : (a :: b :: r).reverse.length = r.length + 2 := by simp
      have hsa : sm a ∧ sm b ∧ r.all smB = true := by simpa [smB] using hs2
      have hx0 := cross_c b a p hsa.2.1 hsa.1 hp
      have hl3 : r.length + 2 ≤ 4096 := by simp only [List.length_cons] at hs3; omega
      have ht : (a :: b :: r).reverse.take (r.length + 1) = (b :: r).reverse := rev_take a (b :: r)
      generalize hL : (a :: b :: r).reverse = L at *
      have hx : Con Try.prog 34 [pt (at_ L ((L.length : Int) - 2)), pt (at_ L ((L.length : Int) - 1)), pt p] (I (crossP b a p)) := by rw [e1, e2]; exact hx0
      by_cases hc : crossP b a p ≤ 0
      · have hpop : popP p (b :: r) = popP p st := by
          rw [← hs1]
          conv => rhs; unfold popP
          rw [if_pos hc]
        repeat (refine seq_ ?_)
        refine draw_ [(0, true), (1, true), (2, true), (3, true), (4, true), (5, true), (6, true), (7, true), (8, true), (9, true), (10, true), (11, true), (12, true), (13, true), (14, true), (15, true), (16, true), (17, false), (18, true), (19, true)] 1000 [3, 5] mixed (by kernel_rfl) rfl ?_
        ((refine dY rfl (y_move rfl) rfl rfl rfl rfl ?_); refine dY rfl (y_len_pv rfl rfl) rfl rfl rfl rfl ?_; refine dY rfl (y_cmpT rfl rfl rfl (by omega)) rfl rfl rfl rfl ?_; refine dY rfl (y_move rfl) rfl rfl rfl rfl ?_; refine dY rfl (y_move rfl) rfl rfl rfl rfl ?_; refine dY rfl (y_move rfl) rfl rfl rfl rfl ?_; refine dY rfl (y_len_pv rfl rfl) rfl rfl rfl rfl ?_; refine dY rfl (y_binn rfl rfl rfl (by simp only [InK, loK, hiK]; omega)) rfl rfl rfl rfl ?_; refine dY rfl (y_index_pv rfl rfl rfl (by omega) (by omega)) rfl rfl rfl rfl ?_; refine dY rfl (y_load_pv rfl rfl (by omega) (by omega)) rfl rfl rfl rfl ?_; refine dY rfl (y_move rfl) rfl rfl rfl rfl ?_; refine dY rfl (y_move rfl) rfl rfl rfl rfl ?_; refine dY rfl (y_len_pv rfl rfl) rfl rfl rfl rfl ?_; refine dY rfl (y_binn rfl rfl rfl (by simp only [InK, loK, hiK]; omega)) rfl rfl rfl rfl ?_; refine dY rfl (y_index_pv rfl rfl rfl (by omega) (by omega)) rfl rfl rfl rfl ?_; refine dY rfl (y_load_pv rfl rfl (by omega) (by omega)) rfl rfl rfl rfl ?_; refine dY rfl (y_loadA rfl rfl rfl) rfl rfl rfl rfl ?_)
        refine dC rfl Try.func34 rfl rfl (hx) rfl (by repeat (first | exact .refl _ | apply Les.cons | exact .nil)) rfl rfl ?_
        ((refine dY rfl (y_cmpT rfl rfl rfl (by omega)) rfl rfl rfl rfl ?_); refine dY rfl (y_pick_t rfl rfl) rfl rfl rfl rfl ?_; refine dEnd ?_)
        repeat (first | refine region_ ?_ | refine skip_ ?_ | refine block_ ?_ | refine cond_t rfl ?_ | refine stepY (y_move rfl) rfl ?_ | refine stepY (y_len_pv rfl rfl) rfl ?_ | refine stepY (y_binn rfl rfl rfl (by simp only [InK, loK, hiK]; omega)) rfl ?_)
        apply stepY (op := .slice _ _ _ _ _)
        · exact y_slice_pv rfl rfl rfl (by omega) (by omega) (by omega)
        · exact rfl
        refine cut_Lv (i := 36) (h := 3) rfl rfl rfl rfl (by omega) (by omega) ?_
        have hT : ((L.length : Int) - 1).toNat = r.length + 1 := by omega
        rw [hT, ht]
        repeat (first | refine nil_ ?_ | refine stepY (y_assign rfl) rfl ?_)
        refine ⟨b :: r, ⟨hpop, ?_, ?_⟩, ?_, ?_, ?_⟩
        · simp only [List.all_cons, Bool.and_eq_true] at hs2 ⊢; exact hs2.2
        · simp only [List.length_cons] at hs3 ⊢; omega
        · simp only [List.length_cons]; omega
        · (repeat (first | exact sub_nil | refine sub_cons rfl ?_))
        · (repeat (first | exact subH_nil | refine subH_cons rfl ?_))
      · have hpop : popP p st = a :: b :: r := by
          rw [← hs1]
          unfold popP
          rw [if_neg hc]
        repeat (refine seq_ ?_)
        refine draw_ [(0, true), (1, true), (2, true), (3, true), (4, true), (5, true), (6, true), (7, true), (8, true), (9, true), (10, true), (11, true), (12, true), (13, true), (14, true), (15, true), (16, true), (17, false), (18, true), (19, true)] 1000 [3, 5] mixed (by kernel_rfl) rfl ?_
        ((refine dY rfl (y_move rfl) rfl rfl rfl rfl ?_); refine dY rfl (y_len_pv rfl rfl) rfl rfl rfl rfl ?_; refine dY rfl (y_cmpT rfl rfl rfl (by omega)) rfl rfl rfl rfl ?_; refine dY rfl (y_move rfl) rfl rfl rfl rfl ?_; refine dY rfl (y_move rfl) rfl rfl rfl rfl ?_; refine dY rfl (y_move rfl) rfl rfl rfl rfl ?_; refine dY rfl (y_len_pv rfl rfl) rfl rfl rfl rfl ?_; refine dY rfl (y_binn rfl rfl rfl (by simp only [InK, loK, hiK]; omega)) rfl rfl rfl rfl ?_; refine dY rfl (y_index_pv rfl rfl rfl (by omega) (by omega)) rfl rfl rfl rfl ?_; refine dY rfl (y_load_pv rfl rfl (by omega) (by omega)) rfl rfl rfl rfl ?_; refine dY rfl (y_move rfl) rfl rfl rfl rfl ?_; refine dY rfl (y_move rfl) rfl rfl rfl rfl ?_; refine dY rfl (y_len_pv rfl rfl) rfl rfl rfl rfl ?_; refine dY rfl (y_binn rfl rfl rfl (by simp only [InK, loK, hiK]; omega)) rfl rfl rfl rfl ?_; refine dY rfl (y_index_pv rfl rfl rfl (by omega) (by omega)) rfl rfl rfl rfl ?_; refine dY rfl (y_load_pv rfl rfl (by omega) (by omega)) rfl rfl rfl rfl ?_; refine dY rfl (y_loadA rfl rfl rfl) rfl rfl rfl rfl ?_)
        refine dC rfl Try.func34 rfl rfl (hx) rfl (by repeat (first | exact .refl _ | apply Les.cons | exact .nil)) rfl rfl ?_
        ((refine dY rfl (y_cmpF rfl rfl rfl (by omega)) rfl rfl rfl rfl ?_); refine dY rfl (y_pick_t rfl rfl) rfl rfl rfl rfl ?_; refine dEnd ?_)
        repeat (first | refine region_ ?_ | refine exit_ ?_ | refine cond_f rfl ?_ | refine stepY (y_move rfl) rfl ?_ | refine stepY (y_loadA rfl rfl rfl) rfl ?_ | refine stepE (e_bs_vs rfl rfl rfl rfl rfl rfl) ?_)
        refine stepE (e_app_pts (l := L) (l2 := [p]) rfl rfl rfl (src_vs rfl rfl) (by simp only [List.length_cons, List.length_nil]; omega) rfl rfl) ?_
        repeat (first | refine region_ ?_ | refine nil_ ?_ | refine stepY (y_move rfl) rfl ?_ | refine stepY (y_assign rfl) rfl ?_ | refine stepY (y_binn rfl rfl rfl (by simp only [InK, loK, hiK]; omega)) rfl ?_)
        rw [← hL, show (a :: b :: r).reverse ++ [p] = (p :: popP p st).reverse by rw [hpop]; exact (List.reverse_cons ..).symm, ← hstep]
        refine ⟨k + 1, ⟨by omega, ?_, ?_⟩, by omega, ?_, ?_⟩
        · rw [hstep, List.length_cons]; omega
        · rw [hstep, List.all_cons, hpa, Bool.and_true]; simp only [smB, decide_eq_true_eq]; exact hp
        · (repeat (first | exact sub_nil | refine sub_cons rfl ?_))
        · (repeat (first | exact subH_nil | refine subH_cons rfl ?_))
    | [a], hs1, hs2, hs3 =>
      have hpop : popP p st = [a] := by rw [← hs1]; rfl
      have hlen : ([a] : List Pt).reverse.length = 1 := rfl
      have hl3 : 1 ≤ st.length := hs3
      generalize hL : ([a] : List Pt).reverse = L at *
      repeat (refine seq_ ?_)
      refine draw_ [(0, true), (1, true), (2, true), (3, true), (4, true), (5, true), (6, true), (7, true), (8, true), (9, true), (10, true), (11, true), (12, true), (13, true), (14, true), (15, true), (16, true), (17, false), (18, true), (19, true)] 1000 [3, 5] mixed (by kernel_rfl) rfl ?_
      ((refine dY rfl (y_move rfl) rfl rfl rfl rfl ?_); refine dY rfl (y_len_pv rfl rfl) rfl rfl rfl rfl ?_; refine dY rfl (y_cmpF rfl rfl rfl (by omega)) rfl rfl rfl rfl ?_; refine dY rfl (y_move rfl) rfl rfl rfl rfl ?_; (refine dSkip rfl rfl rfl rfl ?_); (refine dSkip rfl rfl rfl rfl ?_); (refine dSkip rfl rfl rfl rfl ?_); (refine dSkip rfl rfl rfl rfl ?_); (refine dSkip rfl rfl rfl rfl ?_); (refine dSkip rfl rfl rfl rfl ?_); (refine dSkip rfl rfl rfl rfl ?_); (refine dSkip rfl rfl rfl rfl ?_); (refine dSkip rfl rfl rfl rfl ?_); (refine dSkip rfl rfl rfl rfl ?_); (refine dSkip rfl rfl rfl rfl ?_); (refine dSkip rfl rfl rfl rfl ?_); (refine dSkip rfl rfl rfl rfl ?_))
      first | refine dSkip rfl rfl rfl rfl ?_ | refine dSkip1 rfl rfl rfl rfl ?_
      ((refine dSkip rfl rfl rfl rfl ?_); refine dY rfl (y_pick_f rfl rfl) rfl rfl rfl rfl ?_; refine dEnd ?_)
      repeat (first | refine region_ ?_ | refine exit_ ?_ | refine cond_f rfl ?_ | refine stepY (y_move rfl) rfl ?_ | refine stepY (y_loadA rfl rfl rfl) rfl ?_ | refine stepE (e_bs_vs rfl rfl rfl rfl rfl rfl) ?_)
      refine stepE (e_app_pts (l := L) (l2 := [p]) rfl rfl rfl (src_vs rfl rfl) (by simp only [List.length_cons, List.length_nil]; omega) rfl rfl) ?_
      repeat (first | refine region_ ?_ | refine nil_ ?_ | refine stepY (y_move rfl) rfl ?_ | refine stepY (y_assign rfl) rfl ?_ | refine stepY (y_binn rfl rfl rfl (by simp only [InK, loK, hiK]; omega)) rfl ?_)
      rw [← hL, show ([a] : List Pt).reverse ++ [p] = (p :: popP p st).reverse by rw [hpop]; rfl, ← hstep]
      refine ⟨k + 1, ⟨by omega, ?_, ?_⟩, by omega, ?_, ?_⟩
      · rw [hstep, List.length_cons]; omega
      · rw [hstep, List.all_cons, hpa, Bool.and_true]; simp only [smB, decide_eq_true_eq]; exact hp
      · (repeat (first | exact sub_nil | refine sub_cons rfl ?_))
      · (repeat (first | exact subH_nil | refine subH_cons rfl ?_))
    | [], hs1, hs2, hs3 =>
      have hpop : popP p st = [] := by rw [← hs1]; rfl
      have hlen : ([] : List Pt).reverse.length = 0 := rfl
      generalize hL : ([] : List Pt).reverse = L at *
      repeat (refine seq_ ?_)
      refine draw_ [(0, true), (1, true), (2, true), (3, true), (4, true), (5, true), (6, true), (7, true), (8, true), (9, true), (10, true), (11, true), (12, true), (13, true), (14, true), (15, true), (16, true), (17, false), (18, true), (19, true)] 1000 [3, 5] mixed (by kernel_rfl) rfl ?_
      ((refine dY rfl (y_move rfl) rfl rfl rfl rfl ?_); refine dY rfl (y_len_pv rfl rfl) rfl rfl rfl rfl ?_; refine dY rfl (y_cmpF rfl rfl rfl (by omega)) rfl rfl rfl rfl ?_; refine dY rfl (y_move rfl) rfl rfl rfl rfl ?_; (refine dSkip rfl rfl rfl rfl ?_); (refine dSkip rfl rfl rfl rfl ?_); (refine dSkip rfl rfl rfl rfl ?_); (refine dSkip rfl rfl rfl rfl ?_); (refine dSkip rfl rfl rfl rfl ?_); (refine dSkip rfl rfl rfl rfl ?_); (refine dSkip rfl rfl rfl rfl ?_); (refine dSkip rfl rfl rfl rfl ?_); (refine dSkip rfl rfl rfl rfl ?_); (refine dSkip rfl rfl rfl rfl ?_); (refine dSkip rfl rfl rfl rfl ?_); (refine dSkip rfl rfl rfl rfl ?_); (refine dSkip rfl rfl rfl rfl ?_))
      first | refine dSkip rfl rfl rfl rfl ?_ | refine dSkip1 rfl rfl rfl rfl ?_
      ((refine dSkip rfl rfl rfl rfl ?_); refine dY rfl (y_pick_f rfl rfl) rfl rfl rfl rfl ?_; refine dEnd ?_)
      repeat (first | refine region_ ?_ | refine exit_ ?_ | refine cond_f rfl ?_ | refine stepY (y_move rfl) rfl ?_ | refine stepY (y_loadA rfl rfl rfl) rfl ?_ | refine stepE (e_bs_vs rfl rfl rfl rfl rfl rfl) ?_)
      refine stepE (e_app_pts (l := L) (l2 := [p]) rfl rfl rfl (src_vs rfl rfl) (by simp only [List.length_cons, List.length_nil]; omega) rfl rfl) ?_
      repeat (first | refine region_ ?_ | refine nil_ ?_ | refine stepY (y_move rfl) rfl ?_ | refine stepY (y_assign rfl) rfl ?_ | refine stepY (y_binn rfl rfl rfl (by simp only [InK, loK, hiK]; omega)) rfl ?_)
      rw [← hL, show ([] : List Pt).reverse ++ [p] = (p :: popP p st).reverse by rw [hpop]; rfl, ← hstep]
      refine ⟨k + 1, ⟨by omega, ?_, ?_⟩, by omega, ?_, ?_⟩
      · rw [hstep, List.length_cons]; omega
      · rw [hstep, List.all_cons, hpa, Bool.and_true]; simp only [smB, decide_eq_true_eq]; exact hp
      · (repeat (first | exact sub_nil | refine sub_cons rfl ?_))
      · (repeat (first | exact subH_nil | refine subH_cons rfl ?_))
  · have e : k = l.length := by omega
    subst e
    rw [chnS_end]
    repeat (first | refine seq_ ?_ | refine region_ ?_ | refine nil_ ?_ | refine exit_ ?_ | refine ret_ ?_ | refine cond_f rfl ?_ | refine stepY (y_move rfl) rfl ?_ | refine stepY (y_assign rfl) rfl ?_ | refine stepY (y_cmpF rfl rfl rfl (by omega)) rfl ?_)
    exact ⟨.inr rfl, 2, 3, rfl, rfl, rfl, rfl⟩
end Go.Av

set_option maxHeartbeats 8000000
set_option exponentiation.threshold 100000
set_option maxRecDepth 100000
set_option linter.unusedVariables false
set_option linter.unusedSimpArgs false
namespace Go.Av
open Go Go.Proofs

open Go.RowKit
/-! sorted -/
class TMk2 (P : Program) (t : TypeId) (e sz bytes : outParam Nat) : Prop where
  out : P.underlying t = some (.slice e) ∧ ∃ i z, P.info? e = some i ∧ i.zero = some z ∧ i.size = sz ∧ i.bytes = bytes ∧ 0 < bytes
section
variable {P : Program} {N : Nat} {E : Env} {H : Hp}
theorem e_mk0 {d : Nat} {t ty e sz bytes : Nat} {a b : Operand} {ik jk : IntKind} {n : Int} [ht : TMk2 P t e sz bytes] (ha : evT E a = some (.p (.v (.int ik 0)))) (hb : evT E b = some (.p (.v (.int jk n)))) (h0 : 0 ≤ n) (h1 : n * bytes ≤ 281474976710655) (hE : frE d E = true) (hN : Nat.blt d N = true) :
    Eff P N (some d) (.makeSlice t a b) ty E H ((d, .vec d) :: E) ((d, .vs e sz []) :: H) [d] := by
  unfold Eff
  intro okA w0 ρ tmps w r
  obtain ⟨ht1, i, z, hi, hz1, hz2, hz3, hbp⟩ := ht.out
  have hle : n ≤ 281474976710655 := by
    have : n * 1 ≤ n * (bytes : Int) := Int.mul_le_mul_of_nonneg_left (by omega) h0
    omega
  obtain ⟨m, rfl⟩ := Int.eq_ofNat_of_zero_le h0
  have h1' : i.bytes * m ≤ 281474976710656 := by
    rw [hz3]
    have : ((bytes * m : Nat) : Int) ≤ 281474976710655 := by rw [Int.natCast_mul, Int.mul_comm]; exact h1
    omega
  obtain ⟨w', hrun, hown, hgr⟩ := run_make_own (P := P) w 0 t e i z sz ht1 hi hz1 hz2 ik jk m h1' (by simp only [maxLen]; omega) (Nat.zero_le _)
  have hr := r.row_new (d := d) (m := .vs e sz []) (y := .slice (some ⟨w.heap.size, 0, none⟩) 0 m) hgr (fun b hb => by simp only [blk, Option.some.injEq] at hb; omega) hE (pH_lt r hN) (fun _ => by
    simp only [RelB, List.length_nil]
    exact ⟨[], by simp only [Rels], by simp, by simpa [flat] using hown, by simp [flat], by simp [lim]⟩)
  refine ⟨.value (.slice (some ⟨w.heap.size, 0, none⟩) 0 m), _, _, w', fun _ _ _ => ?_, .inl rfl, hr.put (Nat.le_of_ble_eq_true hN) (x := .vec d) ?_, fun b hb _ => hgr.block b hb (by simp), hgr.size, fun h hh => upd_other (by simpa using hh), old_cons, fun h hh b hb => .inl (by simp only [List.mem_singleton] at hh; subst hh; rw [upd_same] at hb; simp only [blk, Option.some.injEq] at hb; omega)⟩
  · simp only [execOp, ev_v r ha, ev_v r hb, Sem.run_bind, hrun, Result.andThen_ok, Sem.run_pure]
  · simp only [RelT, upd_same]
end
instance : TMk2 Try.prog 102 103 2 16 := ⟨by kernel_rfl, by
  obtain ⟨i, hi⟩ := Option.isSome_iff_exists.1 (show (Try.prog.info? 103).isSome = true by kernel_rfl)
  have h : (Try.prog.info? 103).map (fun i => (i.zero, i.size, i.bytes)) = some (some (.agg #[.int .i64 0, .int .i64 0]), 2, 16) := by kernel_rfl
  rw [hi] at h
  simp only [Option.map_some, Option.some.injEq, Prod.mk.injEq] at h
  exact ⟨i, _, hi, h.1, h.2.1, h.2.2, by decide⟩⟩
end Go.Av

set_option maxHeartbeats 8000000
set_option exponentiation.threshold 100000
set_option maxRecDepth 100000
set_option linter.unusedVariables false
set_option linter.unusedSimpArgs false
namespace Go.Av
open Go Go.Proofs

open Go.RowKit
def lastO (prev : Option Pt) (l : List Pt) : Option Pt := match l.getLast? with
  | some x => some x
  | none => prev
theorem lastO_cons (prev : Option Pt) (q : Pt) (l : List Pt) : lastO prev (q :: l) = lastO (some q) l := by
  unfold lastO
  cases l with
  | nil => rfl
  | cons r l => rw [List.getLast?_cons_cons]; cases h : (r :: l).getLast? with
    | none => simp at h
    | some x => rfl
theorem dupF_snoc : ∀ (l : List Pt) (prev : Option Pt) (p : Pt), dupF prev (l ++ [p]) = dupF prev l ++ (if lastO prev l = some p then [] else [p])
  | [], prev, p => by
    by_cases h : prev = some p <;> simp [dupF, lastO, h]
  | q :: l, prev, p => by
    rw [List.cons_append, lastO_cons]
    unfold dupF
    split
    · exact dupF_snoc l (some q) p
    · rw [dupF_snoc l (some q) p, List.cons_append]
theorem take_at {S : List Pt} {k : Nat} (h : k < S.length) : S.take (k + 1) = S.take k ++ [at_ S k] := by
  rw [List.take_succ_eq_append_getElem h]
  simp [at_, List.getD, h]
theorem lastO_take {S : List Pt} {k : Nat} (h : k < S.length) (h0 : 0 < k) : lastO none (S.take k) = some (at_ S ((k : Int) - 1)) := by
  obtain ⟨j, rfl⟩ : ∃ j, k = j + 1 := ⟨k - 1, by omega⟩
  rw [take_at (by omega)]
  unfold lastO
  rw [List.getLast?_concat]
  rw [show (((j + 1 : Nat) : Int) - 1) = ((j : Nat) : Int) by omega]
theorem eqI_pt (p q : Pt) : eqI [p.1, p.2] [q.1, q.2] = decide (p = q) := by
  unfold eqI
  by_cases h : p = q
  · rw [decide_eq_true h, decide_eq_true (by rw [h])]
  · rw [decide_eq_false h]
    refine decide_eq_false (fun e => h ?_)
    simp only [List.cons.injEq, and_true] at e
    exact Prod.ext e.1 e.2
theorem sorted_c (l : List Pt) (h0 : l ≠ []) (hn : l.length ≤ 4096) : ConRM Try.prog 55 [.ss false 2 (pts l)] (.vs 28 2 (pts (unq l))) := by
  refine conRM_of Try.func55 rfl rfl rfl (noT_ps l) rfl (stab_pts _) ?_
  have hS := SortFunc_L l h0 hn
  have hSl : (srt l).length = l.length := (srt_perm l).length_eq
  repeat (first | refine seq_ ?_ | refine region_ ?_ | refine nil_ ?_ | refine stepY (y_move rfl) rfl ?_ | refine stepY (y_assign rfl) rfl ?_ | refine stepY (y_len_ps rfl) rfl ?_)
  refine stepE (e_mk0 rfl rfl (by omega) (by omega) rfl rfl) ?_
  repeat (first | refine seq_ ?_ | refine region_ ?_ | refine nil_ ?_ | refine block_ ?_ | refine stepY (y_move rfl) rfl ?_ | refine stepY (y_assign rfl) rfl ?_ | refine stepY (y_len_ps rfl) rfl ?_)
  refine loop_ (α := Nat) (fun k => ([(3, .vec 11), (12, .p (.ss false 2 (pts l))), (13, .p (I l.length)), (14, .p (I k))], [(11, .vs 103 2 (pts (l.take k)))])) (fun k => k ≤ l.length) (fun k => l.length - k) 0 (by omega) ?_ ?_ ?_
  · (repeat (first | exact sub_nil | refine sub_cons rfl ?_))
  · (repeat (first | exact subH_nil | refine subH_cons rfl ?_))
  intro k hk
  by_cases h : k < l.length
  · have htk := take_at h
    have htl : (l.take k).length = k := by rw [List.length_take]; omega
    repeat (first | refine seq_ ?_ | refine region_ ?_ | refine nil_ ?_ | refine skip_ ?_ | refine block_ ?_ | refine cond_t rfl ?_ | refine stepY (y_move rfl) rfl ?_ | (first | refine stepY (y_loadA rfl rfl rfl) rfl ?_ | refine stepY (y_load_rcA rfl rfl) rfl ?_) | refine stepY (y_index_ps rfl rfl (by omega) (by omega)) rfl ?_ | refine stepY (y_cmpT rfl rfl rfl (by omega)) rfl ?_ | refine stepE (e_alloc rfl rfl rfl) ?_ | refine stepE (e_store rfl rfl rfl rfl rfl rfl rfl) ?_ | refine stepE (e_bs_vs rfl rfl rfl rfl rfl rfl) ?_)
    refine stepE (e_app_pts (l2 := [at_ l (k : Int)]) rfl rfl rfl (src_vs rfl rfl) (by rw [htl]; simp only [List.length_cons, List.length_nil]; omega) rfl rfl) ?_
    repeat (first | refine region_ ?_ | refine nil_ ?_ | refine stepY (y_move rfl) rfl ?_ | refine stepY (y_assign rfl) rfl ?_ | refine stepY (y_binn rfl rfl rfl (by simp only [InK, loK, hiK]; omega)) rfl ?_)
    rw [← htk]
    refine ⟨k + 1, by omega, by omega, ?_, ?_⟩
    · (repeat (first | exact sub_nil | refine sub_cons rfl ?_))
    · (repeat (first | exact subH_nil | refine subH_cons rfl ?_))
  · have e : k = l.length := by omega
    subst e
    rw [List.take_length]
    repeat (first | refine seq_ ?_ | refine region_ ?_ | refine nil_ ?_ | refine exit_ ?_ | refine cond_f rfl ?_ | refine stepY (y_move rfl) rfl ?_ | refine stepY (y_cmpF rfl rfl rfl (by omega)) rfl ?_)
    refine callL_ Try.func73 rfl rfl (by simp only [stab_pts, stabEs, stabE, Bool.and_true]) hS rfl rfl rfl rfl ?_
    generalize hSS : srt l = S at *
    repeat (first | refine seq_ ?_ | refine region_ ?_ | refine nil_ ?_ | refine block_ ?_ | refine stepY (y_move rfl) rfl ?_ | refine stepY (y_assign rfl) rfl ?_ | refine stepY (y_len_pv rfl rfl) rfl ?_)
    refine nil_Cp (i := 6) 28 2 rfl rfl rfl ?_
    refine loop_ (α := Nat) (fun k => ([(3, .vec 11), (6, .vec 6), (25, .vec 11), (26, .p (I S.length)), (27, .p (I k))], [(11, .vs 103 2 (pts S)), (6, .vs 28 2 (pts (dupF none (S.take k))))])) (fun k => k ≤ S.length ∧ (dupF none (S.take k)).length ≤ k) (fun k => S.length - k) 0 ⟨by omega, Nat.le_refl _⟩ ?_ ?_ ?_
    · (repeat (first | exact sub_nil | refine sub_cons rfl ?_))
    · (repeat (first | exact subH_nil | refine subH_cons rfl ?_))
    rintro k ⟨hk, hd⟩
    by_cases h : k < S.length
    · have hsn := dupF_snoc (S.take k) none (at_ S k)
      rw [← take_at h] at hsn
      by_cases hk0 : k = 0
      · have hnx : dupF none (S.take (k + 1)) = dupF none (S.take k) ++ [at_ S (k : Int)] := by rw [hsn, hk0]; rfl
        repeat (first | refine seq_ ?_ | refine region_ ?_ | refine nil_ ?_ | refine skip_ ?_ | refine block_ ?_ | refine cond_t rfl ?_ | refine stepY (y_move rfl) rfl ?_ | refine stepY (y_assign rfl) rfl ?_ | refine stepY (y_load_pv rfl rfl (by omega) (by omega)) rfl ?_ | refine stepY (y_index_pv rfl rfl rfl (by omega) (by omega)) rfl ?_ | refine stepY (y_cmpT rfl rfl rfl (by omega)) rfl ?_ | refine stepE (e_alloc rfl rfl rfl) ?_ | refine stepE (e_store rfl rfl rfl rfl rfl rfl rfl) ?_)
        refine draw_ [(0, true), (1, true), (2, true), (3, true), (4, true), (5, true), (6, true), (7, true), (8, true), (9, true), (10, true)] 1000 [8, 11] mixed (by kernel_rfl) rfl ?_
        ((refine dY rfl (y_move rfl) rfl rfl rfl rfl ?_); refine dY rfl (y_cmpT rfl rfl rfl (by omega)) rfl rfl rfl rfl ?_; refine dY rfl (y_move rfl) rfl rfl rfl rfl ?_; (refine dSkip rfl rfl rfl rfl ?_); (refine dSkip rfl rfl rfl rfl ?_); (refine dSkip rfl rfl rfl rfl ?_); (refine dSkip rfl rfl rfl rfl ?_); (refine dSkip rfl rfl rfl rfl ?_); (refine dSkip rfl rfl rfl rfl ?_); (refine dSkip rfl rfl rfl rfl ?_); refine dY rfl (y_pick_t rfl rfl) rfl rfl rfl rfl ?_; refine dEnd ?_)
        repeat (first | refine region_ ?_ | refine cond_t rfl ?_ | refine stepY (y_move rfl) rfl ?_ | refine stepY (y_loadA rfl rfl rfl) rfl ?_ | refine stepE (e_bs_vs rfl rfl rfl rfl rfl rfl) ?_)
        refine stepE (e_app_pts (l2 := [at_ S (k : Int)]) rfl rfl rfl (src_vs rfl rfl) (by simp only [List.length_cons, List.length_nil]; omega) rfl rfl) ?_
        repeat (first | refine region_ ?_ | refine nil_ ?_ | refine stepY (y_move rfl) rfl ?_ | refine stepY (y_assign rfl) rfl ?_ | refine stepY (y_binn rfl rfl rfl (by simp only [InK, loK, hiK]; omega)) rfl ?_)
        rw [show dupF none (S.take k) ++ [at_ S (k : Int)] = dupF none (S.take (k + 1)) from hnx.symm]
        refine ⟨k + 1, ⟨by omega, by rw [hnx, List.length_append, List.length_singleton]; omega⟩, by omega, ?_, ?_⟩
        · (repeat (first | exact sub_nil | refine sub_cons rfl ?_))
        · (repeat (first | exact subH_nil | refine subH_cons rfl ?_))
      · rw [lastO_take h (by omega)] at hsn
        have hq := eqI_pt (at_ S (k : Int)) (at_ S ((k : Int) - 1))
        by_cases hpq : at_ S (k : Int) = at_ S ((k : Int) - 1)
        · rw [decide_eq_true hpq] at hq
          have hnx : dupF none (S.take (k + 1)) = dupF none (S.take k) := by rw [hsn, if_pos (by rw [hpq]), List.append_nil]
          repeat (first | refine seq_ ?_ | refine region_ ?_ | refine nil_ ?_ | refine skip_ ?_ | refine block_ ?_ | refine cond_t rfl ?_ | refine stepY (y_move rfl) rfl ?_ | refine stepY (y_assign rfl) rfl ?_ | refine stepY (y_load_pv rfl rfl (by omega) (by omega)) rfl ?_ | refine stepY (y_index_pv rfl rfl rfl (by omega) (by omega)) rfl ?_ | refine stepY (y_cmpT rfl rfl rfl (by omega)) rfl ?_ | refine stepE (e_alloc rfl rfl rfl) ?_ | refine stepE (e_store rfl rfl rfl rfl rfl rfl rfl) ?_)
          refine draw_ [(0, true), (1, true), (2, true), (3, true), (4, true), (5, true), (6, true), (7, true), (8, true), (9, true), (10, true)] 1000 [8, 11] mixed (by kernel_rfl) rfl ?_
          ((refine dY rfl (y_move rfl) rfl rfl rfl rfl ?_); refine dY rfl (y_cmpF rfl rfl rfl (by omega)) rfl rfl rfl rfl ?_; refine dY rfl (y_move rfl) rfl rfl rfl rfl ?_; refine dY rfl (y_loadA rfl rfl rfl) rfl rfl rfl rfl ?_; refine dY rfl (y_move rfl) rfl rfl rfl rfl ?_; refine dY rfl (y_move rfl) rfl rfl rfl rfl ?_; refine dY rfl (y_binn rfl rfl rfl (by simp only [InK, loK, hiK]; omega)) rfl rfl rfl rfl ?_; refine dY rfl (y_index_pv rfl rfl rfl (by omega) (by omega)) rfl rfl rfl rfl ?_; refine dY rfl (y_load_pv rfl rfl (by omega) (by omega)) rfl rfl rfl rfl ?_; refine dY rfl (y_neI rfl rfl rfl rfl rfl rfl (by assumption)) rfl rfl rfl rfl ?_; refine dY rfl (y_pick_f rfl rfl) rfl rfl rfl rfl ?_; refine dEnd ?_)
          repeat (first | refine region_ ?_ | refine nil_ ?_ | refine skip_ ?_ | refine cond_f rfl ?_ | refine stepY (y_move rfl) rfl ?_ | refine stepY (y_binn rfl rfl rfl (by simp only [InK, loK, hiK]; omega)) rfl ?_)
          rw [← hnx]
          refine ⟨k + 1, ⟨by omega, by rw [hnx]; omega⟩, by omega, ?_, ?_⟩
          · (repeat (first | exact sub_nil | refine sub_cons rfl ?_))
          · (repeat (first | exact subH_nil | refine subH_cons rfl ?_))
        · rw [decide_eq_false hpq] at hq
          have hnx : dupF none (S.take (k + 1)) = dupF none (S.take k) ++ [at_ S (k : Int)] := by rw [hsn, if_neg (fun e => hpq (Option.some.inj e).symm)]
          repeat (first | refine seq_ ?_ | refine region_ ?_ | refine nil_ ?_ | refine skip_ ?_ | refine block_ ?_ | refine cond_t rfl ?_ | refine stepY (y_move rfl) rfl ?_ | refine stepY (y_assign rfl) rfl ?_ | refine stepY (y_load_pv rfl rfl (by omega) (by omega)) rfl ?_ | refine stepY (y_index_pv rfl rfl rfl (by omega) (by omega)) rfl ?_ | refine stepY (y_cmpT rfl rfl rfl (by omega)) rfl ?_ | refine stepE (e_alloc rfl rfl rfl) ?_ | refine stepE (e_store rfl rfl rfl rfl rfl rfl rfl) ?_)
          refine draw_ [(0, true), (1, true), (2, true), (3, true), (4, true), (5, true), (6, true), (7, true), (8, true), (9, true), (10, true)] 1000 [8, 11] mixed (by kernel_rfl) rfl ?_
          ((refine dY rfl (y_move rfl) rfl rfl rfl rfl ?_); refine dY rfl (y_cmpF rfl rfl rfl (by omega)) rfl rfl rfl rfl ?_; refine dY rfl (y_move rfl) rfl rfl rfl rfl ?_; refine dY rfl (y_loadA rfl rfl rfl) rfl rfl rfl rfl ?_; refine dY rfl (y_move rfl) rfl rfl rfl rfl ?_; refine dY rfl (y_move rfl) rfl rfl rfl rfl ?_; refine dY rfl (y_binn rfl rfl rfl (by simp only [InK, loK, hiK]; omega)) rfl rfl rfl rfl ?_; refine dY rfl (y_index_pv rfl rfl rfl (by omega) (by omega)) rfl rfl rfl rfl ?_; refine dY rfl (y_load_pv rfl rfl (by omega) (by omega)) rfl rfl rfl rfl ?_; refine dY rfl (y_neI rfl rfl rfl rfl rfl rfl (by assumption)) rfl rfl rfl rfl ?_; refine dY rfl (y_pick_f rfl rfl) rfl rfl rfl rfl ?_; refine dEnd ?_)
          repeat (first | refine region_ ?_ | refine cond_t rfl ?_ | refine stepY (y_move rfl) rfl ?_ | refine stepY (y_loadA rfl rfl rfl) rfl ?_ | refine stepE (e_bs_vs rfl rfl rfl rfl rfl rfl) ?_)
          refine stepE (e_app_pts (l2 := [at_ S (k : Int)]) rfl rfl rfl (src_vs rfl rfl) (by simp only [List.length_cons, List.length_nil]; omega) rfl rfl) ?_
          repeat (first | refine region_ ?_ | refine nil_ ?_ | refine stepY (y_move rfl) rfl ?_ | refine stepY (y_assign rfl) rfl ?_ | refine stepY (y_binn rfl rfl rfl (by simp only [InK, loK, hiK]; omega)) rfl ?_)
          rw [show dupF none (S.take k) ++ [at_ S (k : Int)] = dupF none (S.take (k + 1)) from hnx.symm]
          refine ⟨k + 1, ⟨by omega, by rw [hnx, List.length_append, List.length_singleton]; omega⟩, by omega, ?_, ?_⟩
          · (repeat (first | exact sub_nil | refine sub_cons rfl ?_))
          · (repeat (first | exact subH_nil | refine subH_cons rfl ?_))
    · have e : k = S.length := by omega
      subst e
      rw [List.take_length, show dupF none S = unq l by rw [← hSS]; rfl]
      repeat (first | refine seq_ ?_ | refine region_ ?_ | refine nil_ ?_ | refine exit_ ?_ | refine ret_ ?_ | refine cond_f rfl ?_ | refine stepY (y_move rfl) rfl ?_ | refine stepY (y_assign rfl) rfl ?_ | refine stepY (y_cmpF rfl rfl rfl (by omega)) rfl ?_)
      exact ⟨.inr rfl, 2, 6, rfl, rfl, rfl, rfl⟩
end Go.Av

set_option maxHeartbeats 8000000
set_option exponentiation.threshold 100000
set_option maxRecDepth 100000
set_option linter.unusedVariables false
set_option linter.unusedSimpArgs false
namespace Go.Av
open Go Go.Proofs

open Go.RowKit
section
variable {P : Program} {N : Nat} {E : Env} {H : Hp} {Q : Exit → Env → Hp → Prop} {ops : Array Oper} {rest : List Oper}
/-- A call whose one argument is an own row that is only read, and that answers an own row. -/
theorem callRL_ {d : Nat} {f : FuncId} {fn : Func} {o : Operand} {ts : Array TypeId} {ty : TypeId} {pos : String} {af : Array Edge} {h sz : Nat} {e : TypeId} {es : List PV} {m : MB} (hf : P.funcs[f]? = some fn) (hn : (fn.name == "runtime.NumGoroutine") = false) (hb : fn.body.isNone = false)
    (hst : (stabM m && stabEs es) = true) (hc : ConRM P f [.ss false sz es] m) (ho : evT E o = some (.vec h)) (hm : hk h H = some (.vs e sz es)) (hE : frE d E = true) (hd : Nat.blt d N = true) (kk : TrL P N ops rest ((d, .vec d) :: E) ((d, m) :: H) Q) :
    TrL P N ops (⟨some d, .call { callee := .value (.func f), args := #[o], argTypes := ts }, ty, pos, af, none⟩ :: rest) E H Q := by
  unfold TrL at kk ⊢
  intro okA w0 ρ tmps w r
  refine wpList_plain rfl fun K hK => ?_
  simp only [Bool.and_eq_true] at hst
  have h0 := ev_rel r ho
  simp only [RelT] at h0
  have hB := r.heap h _ hm
  have hbd := fun b hb' => (hB.bounds (b := b) hb').2
  simp only [RelB] at hB
  obtain ⟨ys, h3, h4, h5, _, h6⟩ := hB
  have hs := seal_vs (ok := fun _ b => b < w.heap.size ∧ blk (ρ h) = some b) (stabEs_rel _ _ hst.2 h3) h4 h5 h6 (fun b hb' => ⟨hbd b hb', hb'⟩)
  have hs2 : Rel w (fun _ b => b < w.heap.size ∧ blk (ρ h) = some b) (.ss false sz es) (ρ h) := Le.rel (fun _ hb => hb) (.tags _ _) _ hs
  have hcall := hc (fun b => blk (ρ h) = some b) w [ρ h] (by simp only [Rels]; exact ⟨_, _, rfl, hs2, rfl⟩)
  have hrun : (execOp (Act.eval ⟨tmps, []⟩) ⟨some d, .call { callee := .value (.func f), args := #[o], argTypes := ts }, ty, pos, af, none⟩).run P w = .ok (.enter f #[ρ h]) w := by
    have hn' : ¬ fn.name = "runtime.NumGoroutine" := by simpa using hn
    have hb' : ¬ fn.body = none := by intro h; rw [h] at hb; simp at hb
    have h1 : Act.eval ⟨tmps, []⟩ (.func f) = .func (.func f) #[] #[] := rfl
    simp [execOp, resolve, Deferred.ofValue, h1, invoke, callFunc, hf, hn', hb', h0]
  simp only [Oper.wp, hrun, Oper.upon]
  refine hcall.mono fun en w' ⟨y, he, hB, hy, hbl⟩ => ?_
  subst he
  have r' : Rep okA w0 N (upd ρ d y) E ((d, m) :: H) tmps w' := by
    refine r.at_ ⟨hbl.os, hbl.tape, hbl.output, hbl.size, fun b hb1 _ => hbl.block b (Nat.lt_of_lt_of_le hb1 r.below.size)⟩ (fun b hb1 _ => hbl.block b hb1) (fun b hb1 => .inl (hy b hb1)) (.inr hE) (.inr (pH_lt r hd)) (fun _ => relB_rowM hst.1 hB (fun _ _ => rfl))
  exact hK _ _ (kk okA w0 _ _ w' (r'.put (Nat.le_of_ble_eq_true hd) (x := .vec d) (by simp only [RelT, upd_same])))
end
end Go.Av

set_option maxHeartbeats 8000000
set_option exponentiation.threshold 100000
set_option maxRecDepth 100000
set_option linter.unusedVariables false
set_option linter.unusedSimpArgs false
namespace Go.Av
open Go Go.Proofs

open Go.RowKit
theorem dupF_mem : ∀ (l : List Pt) (prev : Option Pt) (p : Pt), p ∈ dupF prev l → p ∈ l
  | [], _, p, h => by simp [dupF] at h
  | q :: l, prev, p, h => by
    unfold dupF at h
    split at h
    · exact List.mem_cons_of_mem _ (dupF_mem l _ p h)
    · rcases List.mem_cons.1 h with rfl | h
      · simp
      · exact List.mem_cons_of_mem _ (dupF_mem l _ p h)
theorem dupF_len : ∀ (l : List Pt) (prev : Option Pt), (dupF prev l).length ≤ l.length
  | [], _ => Nat.le_refl _
  | q :: l, prev => by
    unfold dupF
    split
    · have := dupF_len l (some q); simp only [List.length_cons]; omega
    · have := dupF_len l (some q); simp only [List.length_cons]; omega
theorem unq_all {l : List Pt} (h : l.all smB = true) : (unq l).all smB = true := by
  rw [List.all_eq_true] at h ⊢
  intro p hp
  exact h p ((srt_perm l).mem_iff.1 (dupF_mem _ _ p hp))
theorem unq_len (l : List Pt) : (unq l).length ≤ l.length := by
  have := dupF_len (srt l) none
  rwa [(srt_perm l).length_eq] at this
theorem chnS_len : ∀ {l : List Pt} {k : Nat}, k ≤ l.length → (chnS l k).length ≤ k ∧ (0 < k → 0 < (chnS l k).length)
  | l, 0, _ => ⟨Nat.le_refl _, fun h => absurd h (by omega)⟩
  | l, k + 1, h => by
    have h1 := (chnS_len (l := l) (k := k) (by omega)).1
    have h2 := popP_len (at_ l k) (chnS l k)
    rw [chnS_step (by omega), List.length_cons]
    exact ⟨by omega, fun _ => by omega⟩
theorem chnF_len {l : List Pt} : (chnF l).length ≤ l.length ∧ (0 < l.length → 0 < (chnF l).length) := by
  have := chnS_len (l := l) (k := l.length) (Nat.le_refl _)
  rwa [← chnS_end, List.length_reverse]
theorem hull_c (l : List Pt) (h0 : l ≠ []) (hs : l.all smB = true) (hn : l.length ≤ 4096) : ConRM Try.prog 33 [.ss false 2 (pts l)] (.vs 28 2 (pts (hullF l))) := by
  have hso := sorted_c l h0 hn
  have hul := unq_len l
  have hua := unq_all hs
  unfold hullF
  generalize unq l = S at *
  refine conRM_of Try.func33 rfl rfl rfl (noT_ps l) rfl (stab_pts _) ?_
  repeat (first | refine seq_ ?_ | refine region_ ?_ | refine nil_ ?_ | refine stepY (y_move rfl) rfl ?_ | refine stepY (y_assign rfl) rfl ?_)
  refine callRM_ Try.func55 rfl rfl (show stabM (.vs 28 2 (pts S)) = true from stab_pts S) hso rfl (by repeat (first | exact .refl _ | apply Les.cons | exact .nil)) rfl rfl ?_
  by_cases h3 : S.length < 3
  · rw [if_pos h3]
    repeat (first | refine seq_ ?_ | refine region_ ?_ | refine nil_ ?_ | refine ret_ ?_ | refine cond_t rfl ?_ | refine stepY (y_move rfl) rfl ?_ | refine stepY (y_assign rfl) rfl ?_ | refine stepY (y_len_pv rfl rfl) rfl ?_ | refine stepY (y_cmpT rfl rfl rfl (by omega)) rfl ?_)
    exact ⟨.inr rfl, 2, 7, rfl, rfl, rfl, rfl⟩
  · rw [if_neg h3]
    have hch := chain_c S hua (by omega)
    have hrv := Reverse_L S (fun e => by rw [e] at h3; simp at h3) (by omega)
    have hch2 := chain_c S.reverse (by rw [List.all_reverse]; exact hua) (by simp; omega)
    have hl1 := chnF_len (l := S)
    have hl2 := chnF_len (l := S.reverse)
    rw [List.length_reverse] at hl2
    rw [List.dropLast_eq_take, List.dropLast_eq_take]
    generalize chnF S = A1 at *
    generalize chnF S.reverse = A2 at *
    have p1 := hl1.2 (by omega)
    have p2 := hl2.2 (by omega)
    repeat (first | refine seq_ ?_ | refine region_ ?_ | refine nil_ ?_ | refine skip_ ?_ | refine cond_f rfl ?_ | refine stepY (y_move rfl) rfl ?_ | refine stepY (y_assign rfl) rfl ?_ | refine stepY (y_len_pv rfl rfl) rfl ?_ | refine stepY (y_cmpF rfl rfl rfl (by omega)) rfl ?_)
    refine callRL_ Try.func56 rfl rfl (by simp only [stabM, stab_pts, Bool.and_true]) hch rfl rfl rfl rfl ?_
    repeat (first | refine seq_ ?_ | refine region_ ?_ | refine nil_ ?_ | refine stepY (y_move rfl) rfl ?_ | refine stepY (y_assign rfl) rfl ?_)
    refine callL_ Try.func57 rfl rfl (by simp only [stab_pts, stabEs, Bool.and_true]) hrv rfl rfl rfl rfl ?_
    repeat (first | refine seq_ ?_ | refine region_ ?_ | refine nil_ ?_ | refine stepY (y_move rfl) rfl ?_)
    refine callRL_ Try.func56 rfl rfl (by simp only [stabM, stab_pts, Bool.and_true]) hch2 rfl rfl rfl rfl ?_
    repeat (first | refine seq_ ?_ | refine nil_ ?_ | refine stepY (y_assign rfl) rfl ?_)
    refine draw_ [(0, true), (1, true), (2, true), (3, true), (4, true), (5, true), (6, true), (7, true), (8, true), (9, true), (10, false), (11, true)] 10 [13, 17] mixed (by kernel_rfl) rfl ?_
    ((refine dY rfl (y_move rfl) rfl rfl rfl rfl ?_); refine dY rfl (y_move rfl) rfl rfl rfl rfl ?_; refine dY rfl (y_len_pv rfl rfl) rfl rfl rfl rfl ?_; refine dY rfl (y_binn rfl rfl rfl (by simp only [InK, loK, hiK]; omega)) rfl rfl rfl rfl ?_; refine dY rfl (y_slice_pv rfl rfl rfl (by omega) (by omega) (by omega)) rfl rfl rfl rfl ?_; refine dY rfl (y_move rfl) rfl rfl rfl rfl ?_; refine dY rfl (y_move rfl) rfl rfl rfl rfl ?_; refine dY rfl (y_len_pv rfl rfl) rfl rfl rfl rfl ?_; refine dY rfl (y_binn rfl rfl rfl (by simp only [InK, loK, hiK]; omega)) rfl rfl rfl rfl ?_; refine dY rfl (y_slice_pv rfl rfl rfl (by omega) (by omega) (by omega)) rfl rfl rfl rfl ?_)
    have e1 : ((A1.length : Int) - 1).toNat = A1.length - 1 := by omega
    have e2 : ((A2.length : Int) - 1).toNat = A2.length - 1 := by omega
    refine dX rfl (e_app_cut (i := 22) (h := 13) (l := A1) (l2 := A2.take ((A2.length : Int) - 1).toNat) rfl rfl rfl (by omega) (by omega) rfl (by rw [pts_take A2]; exact src_vw rfl rfl (by rw [pts_len]; omega)) (by rw [List.length_take]; omega) rfl rfl) rfl rfl ?_
    ((refine dY rfl (y_assign rfl) rfl rfl rfl rfl ?_); refine dEnd ?_)
    repeat (refine ret_ ?_)
    rw [e1, e2]
    exact ⟨.inr rfl, 2, 13, rfl, rfl, rfl, rfl⟩
end Go.Av

set_option maxHeartbeats 8000000
set_option exponentiation.threshold 100000
set_option maxRecDepth 100000
set_option linter.unusedVariables false
set_option linter.unusedSimpArgs false
namespace Go.Av
open Go Go.Proofs

open Go.RowKit
/-! Twice the area -/
def arT (l : List Pt) (k : Nat) : Int := (at_ l k).1 * (at_ l (((k : Int) + 1) % l.length)).2 - (at_ l (((k : Int) + 1) % l.length)).1 * (at_ l k).2
def arS (l : List Pt) : Nat → Int
  | 0 => 0
  | k + 1 => arS l k + arT l k
theorem mul_bd24 {x y : Int} (hx : -16777216 ≤ x ∧ x ≤ 16777216) (hy : -16777216 ≤ y ∧ y ≤ 16777216) : -281474976710656 ≤ x * y ∧ x * y ≤ 281474976710656 := by
  have h1 : x.natAbs ≤ 16777216 := by omega
  have h2 : y.natAbs ≤ 16777216 := by omega
  have h3 : x.natAbs * y.natAbs ≤ 16777216 * 16777216 := Nat.mul_le_mul h1 h2
  have h4 : (x * y).natAbs = x.natAbs * y.natAbs := Int.natAbs_mul x y
  omega
def arR (l : List Pt) : Int × Int := if chkR l = 0 then (arS l l.length, 0) else (0, chkR l)
theorem chk_ok {l : List Pt} (h : chkR l = 0) : l.length ≤ 4096 ∧ l.all smB = true := by
  unfold chkR witR at h
  split at h
  · omega
  · split at h
    · next h1 h2 => exact ⟨by omega, h2⟩
    · omega
theorem chk_cases (l : List Pt) : chkR l = 0 ∨ chkR l = 3 ∨ chkR l = 4 := by
  unfold chkR witR
  split
  · exact .inr (.inr rfl)
  · split
    · exact .inl rfl
    · exact .inr (.inl rfl)
theorem Area2_c (l : List Pt) : Con Try.prog 20 [.ss false 2 (pts l)] (.tp [I (arR l).1, E_ (arR l).2]) := by
  have hc := check_c l
  unfold arR
  rcases chk_cases l with h0 | h0 | h0
  · rw [if_pos h0]
    rw [h0] at hc
    obtain ⟨hn, hall⟩ := chk_ok h0
    refine con_of Try.func20 rfl rfl rfl (noT_ps l) rfl ?_
    repeat (first | refine seq_ ?_ | refine region_ ?_ | refine nil_ ?_ | refine stepY (y_move rfl) rfl ?_ | refine stepY (y_assign rfl) rfl ?_)
    refine call_ Try.func32 rfl rfl (hc) rfl (by repeat (first | exact .refl _ | apply Les.cons | exact .nil)) rfl ?_
    repeat (first | refine seq_ ?_ | refine region_ ?_ | refine nil_ ?_ | refine skip_ ?_ | refine block_ ?_ | refine cond_f rfl ?_ | refine stepY (y_move rfl) rfl ?_ | refine stepY (y_assign rfl) rfl ?_ | refine stepY (y_len_ps rfl) rfl ?_ | refine stepY (y_cmpF rfl rfl rfl (by omega)) rfl ?_)
    refine loop_ (α := Nat) (fun k => ([(0, .p (.ss false 2 (pts l))), (5, .p (I (arS l k))), (14, .p (.ss false 2 (pts l))), (15, .p (I l.length)), (16, .p (I k))], [])) (fun k => k ≤ l.length ∧ -(k * 562949953421312 : Int) ≤ arS l k ∧ arS l k ≤ (k * 562949953421312 : Int)) (fun k => l.length - k) 0 ⟨by omega, by simp [arS], by simp [arS]⟩ ?_ ?_ ?_
    · (repeat (first | exact sub_nil | refine sub_cons rfl ?_))
    · (repeat (exact subH_nil))
    rintro k ⟨hk, ha1, ha2⟩
    by_cases h : k < l.length
    · have hm0 : 0 ≤ ((k : Int) + 1) % (l.length : Int) := Int.emod_nonneg _ (by omega)
      have hm1 : ((k : Int) + 1) % (l.length : Int) < l.length := Int.emod_lt_of_pos _ (by omega)
      obtain ⟨⟨s1, s2⟩, s3, s4⟩ := at_all hall (n := (k : Int)) (by omega) (by omega)
      obtain ⟨⟨r1, r2⟩, r3, r4⟩ := at_all hall hm0 hm1
      have p1 := mul_bd24 (x := (at_ l k).1) (y := (at_ l (((k : Int) + 1) % l.length)).2) ⟨s1, s2⟩ ⟨r3, r4⟩
      have p2 := mul_bd24 (x := (at_ l (((k : Int) + 1) % l.length)).1) (y := (at_ l k).2) ⟨r1, r2⟩ ⟨s3, s4⟩
      have hst : arS l (k + 1) = arS l k + ((at_ l k).1 * (at_ l (((k : Int) + 1) % l.length)).2 - (at_ l (((k : Int) + 1) % l.length)).1 * (at_ l k).2) := rfl
      have hst2 : arS l k + (at_ l k).1 * (at_ l (((k : Int) + 1) % l.length)).2 - (at_ l (((k : Int) + 1) % l.length)).1 * (at_ l k).2 = arS l (k + 1) := by rw [hst]; omega
      repeat (first | refine seq_ ?_ | refine region_ ?_ | refine nil_ ?_ | refine skip_ ?_ | refine block_ ?_ | refine cond_t rfl ?_ | refine stepY (y_move rfl) rfl ?_ | refine stepY (y_assign rfl) rfl ?_ | (first | refine stepY (y_load1 rfl rfl rfl) rfl ?_ | refine stepY (y_load_rcA rfl rfl) rfl ?_) | refine stepY (y_fieldAddr rfl) rfl ?_ | refine stepY (y_len_ps rfl) rfl ?_ | refine stepY (y_index_ps rfl rfl (by omega) (by omega)) rfl ?_ | refine stepY (y_binn rfl rfl rfl (by simp only [InK, loK, hiK]; omega)) rfl ?_ | refine stepY (y_binn rfl rfl rfl (by simp only [InK, loK, hiK]; omega)) rfl ?_ | refine stepY (y_binn rfl rfl rfl (by simp only [InK, loK, hiK]; omega)) rfl ?_ | refine stepY (y_remp rfl rfl (by omega) (by omega)) rfl ?_ | refine stepY (y_cmpT rfl rfl rfl (by omega)) rfl ?_ | refine stepE (e_alloc rfl rfl rfl) ?_ | refine stepE (e_store rfl rfl rfl rfl rfl rfl rfl) ?_)
      skip
      refine ⟨k + 1, ⟨by omega, by rw [hst]; omega, by rw [hst]; omega⟩, by omega, ?_, ?_⟩
      · (repeat (first | exact sub_nil | refine sub_cons rfl ?_))
      · (repeat (exact subH_nil))
    · have e : k = l.length := by omega
      subst e
      repeat (first | refine seq_ ?_ | refine region_ ?_ | refine nil_ ?_ | refine exit_ ?_ | refine ret_ ?_ | refine cond_f rfl ?_ | refine stepY (y_move rfl) rfl ?_ | refine stepY (y_assign rfl) rfl ?_ | refine stepY (y_cmpF rfl rfl rfl (by omega)) rfl ?_)
      ((apply fin_r); (repeat (first | exact .nil | exact .tmp rfl | apply ResL.cons)); (repeat (exact .refl _)))
  · rw [if_neg (by omega)]
    rw [h0] at hc ⊢
    refine con_of Try.func20 rfl rfl rfl (noT_ps l) rfl ?_
    repeat (first | refine seq_ ?_ | refine region_ ?_ | refine nil_ ?_ | refine stepY (y_move rfl) rfl ?_ | refine stepY (y_assign rfl) rfl ?_)
    refine call_ Try.func32 rfl rfl (hc) rfl (by repeat (first | exact .refl _ | apply Les.cons | exact .nil)) rfl ?_
    repeat (first | refine seq_ ?_ | refine region_ ?_ | refine nil_ ?_ | refine ret_ ?_ | refine cond_t rfl ?_ | refine stepY (y_move rfl) rfl ?_ | refine stepY (y_assign rfl) rfl ?_ | refine stepY (y_cmpT rfl rfl rfl (by omega)) rfl ?_)
    ((apply fin_r); (repeat (first | exact .nil | exact .tmp rfl | apply ResL.cons)); (repeat (exact .refl _)))
  · rw [if_neg (by omega)]
    rw [h0] at hc ⊢
    refine con_of Try.func20 rfl rfl rfl (noT_ps l) rfl ?_
    repeat (first | refine seq_ ?_ | refine region_ ?_ | refine nil_ ?_ | refine stepY (y_move rfl) rfl ?_ | refine stepY (y_assign rfl) rfl ?_)
    refine call_ Try.func32 rfl rfl (hc) rfl (by repeat (first | exact .refl _ | apply Les.cons | exact .nil)) rfl ?_
    repeat (first | refine seq_ ?_ | refine region_ ?_ | refine nil_ ?_ | refine ret_ ?_ | refine cond_t rfl ?_ | refine stepY (y_move rfl) rfl ?_ | refine stepY (y_assign rfl) rfl ?_ | refine stepY (y_cmpT rfl rfl rfl (by omega)) rfl ?_)
    ((apply fin_r); (repeat (first | exact .nil | exact .tmp rfl | apply ResL.cons)); (repeat (exact .refl _)))
theorem RArea2_c (l : List Pt) : Con Try.prog 21 [.ss false 2 (pts l)] (.tp [I (arR l).1, E_ (arR l).2]) := by
  have hc := right_c l
  unfold arR
  rcases chk_cases l with h0 | h0 | h0
  · rw [if_pos h0]
    rw [h0] at hc
    obtain ⟨hn, hall⟩ := chk_ok h0
    refine con_of Try.func21 rfl rfl rfl (noT_ps l) rfl ?_
    repeat (first | refine seq_ ?_ | refine region_ ?_ | refine nil_ ?_ | refine stepY (y_move rfl) rfl ?_ | refine stepY (y_assign rfl) rfl ?_)
    refine call_ Try.func39 rfl rfl (hc) rfl (by repeat (first | exact .refl _ | apply Les.cons | exact .nil)) rfl ?_
    repeat (first | refine seq_ ?_ | refine region_ ?_ | refine nil_ ?_ | refine skip_ ?_ | refine block_ ?_ | refine cond_f rfl ?_ | refine stepY (y_move rfl) rfl ?_ | refine stepY (y_assign rfl) rfl ?_ | refine stepY (y_cmpF rfl rfl rfl (by omega)) rfl ?_)
    refine loop_ (α := Nat) (fun k => ([(0, .p (.ss false 2 (pts l))), (5, .p (I (arS l k))), (6, .p (I k))], [])) (fun k => k ≤ l.length ∧ -(k * 562949953421312 : Int) ≤ arS l k ∧ arS l k ≤ (k * 562949953421312 : Int)) (fun k => l.length - k) 0 ⟨by omega, by simp [arS], by simp [arS]⟩ ?_ ?_ ?_
    · (repeat (first | exact sub_nil | refine sub_cons rfl ?_))
    · (repeat (exact subH_nil))
    rintro k ⟨hk, ha1, ha2⟩
    by_cases h : k < l.length
    · have hm0 : 0 ≤ ((k : Int) + 1) % (l.length : Int) := Int.emod_nonneg _ (by omega)
      have hm1 : ((k : Int) + 1) % (l.length : Int) < l.length := Int.emod_lt_of_pos _ (by omega)
      obtain ⟨⟨s1, s2⟩, s3, s4⟩ := at_all hall (n := (k : Int)) (by omega) (by omega)
      obtain ⟨⟨r1, r2⟩, r3, r4⟩ := at_all hall hm0 hm1
      have p1 := mul_bd24 (x := (at_ l k).1) (y := (at_ l (((k : Int) + 1) % l.length)).2) ⟨s1, s2⟩ ⟨r3, r4⟩
      have p2 := mul_bd24 (x := (at_ l (((k : Int) + 1) % l.length)).1) (y := (at_ l k).2) ⟨r1, r2⟩ ⟨s3, s4⟩
      have hst : arS l (k + 1) = arS l k + ((at_ l k).1 * (at_ l (((k : Int) + 1) % l.length)).2 - (at_ l (((k : Int) + 1) % l.length)).1 * (at_ l k).2) := rfl
      have hst2 : arS l k + (at_ l k).1 * (at_ l (((k : Int) + 1) % l.length)).2 - (at_ l (((k : Int) + 1) % l.length)).1 * (at_ l k).2 = arS l (k + 1) := by rw [hst]; omega
      repeat (first | refine seq_ ?_ | refine region_ ?_ | refine nil_ ?_ | refine skip_ ?_ | refine block_ ?_ | refine cond_t rfl ?_ | refine stepY (y_move rfl) rfl ?_ | refine stepY (y_assign rfl) rfl ?_ | refine stepY (y_len_ps rfl) rfl ?_ | refine stepY (y_binn rfl rfl rfl (by simp only [InK, loK, hiK]; omega)) rfl ?_ | refine stepY (y_remp rfl rfl (by omega) (by omega)) rfl ?_ | refine stepY (y_cmpT rfl rfl rfl (by omega)) rfl ?_)
      refine draw_ [(0, true), (1, true), (2, true), (3, true), (4, true), (5, true), (6, true), (7, true), (8, true), (9, true), (10, true), (11, true), (12, true), (13, true), (14, true), (15, true), (16, true), (17, true), (18, true), (19, true), (20, true), (21, true), (22, true), (23, true), (24, true), (25, true)] 1000 [] mixed (by kernel_rfl) rfl ?_
      ((refine dY rfl (y_move rfl) rfl rfl rfl rfl ?_); refine dY rfl (y_move rfl) rfl rfl rfl rfl ?_; refine dY rfl (y_move rfl) rfl rfl rfl rfl ?_; refine dY rfl (y_index_ps rfl rfl (by omega) (by omega)) rfl rfl rfl rfl ?_; refine dY rfl (y_fieldAddr_rc rfl rfl rfl) rfl rfl rfl rfl ?_; refine dY rfl (y_load_rc1 rfl rfl) rfl rfl rfl rfl ?_; refine dY rfl (y_move rfl) rfl rfl rfl rfl ?_; refine dY rfl (y_move rfl) rfl rfl rfl rfl ?_; refine dY rfl (y_index_ps rfl rfl (by omega) (by omega)) rfl rfl rfl rfl ?_; refine dY rfl (y_fieldAddr_rc rfl rfl rfl) rfl rfl rfl rfl ?_; refine dY rfl (y_load_rc1 rfl rfl) rfl rfl rfl rfl ?_; refine dY rfl (y_binn rfl rfl rfl (by simp only [InK, loK, hiK]; omega)) rfl rfl rfl rfl ?_; refine dY rfl (y_binn rfl rfl rfl (by simp only [InK, loK, hiK]; omega)) rfl rfl rfl rfl ?_; refine dY rfl (y_move rfl) rfl rfl rfl rfl ?_; refine dY rfl (y_move rfl) rfl rfl rfl rfl ?_; refine dY rfl (y_index_ps rfl rfl (by omega) (by omega)) rfl rfl rfl rfl ?_; refine dY rfl (y_fieldAddr_rc rfl rfl rfl) rfl rfl rfl rfl ?_; refine dY rfl (y_load_rc1 rfl rfl) rfl rfl rfl rfl ?_; refine dY rfl (y_move rfl) rfl rfl rfl rfl ?_; refine dY rfl (y_move rfl) rfl rfl rfl rfl ?_; refine dY rfl (y_index_ps rfl rfl (by omega) (by omega)) rfl rfl rfl rfl ?_; refine dY rfl (y_fieldAddr_rc rfl rfl rfl) rfl rfl rfl rfl ?_; refine dY rfl (y_load_rc1 rfl rfl) rfl rfl rfl rfl ?_; refine dY rfl (y_binn rfl rfl rfl (by simp only [InK, loK, hiK]; omega)) rfl rfl rfl rfl ?_; refine dY rfl (y_binn rfl rfl rfl (by simp only [InK, loK, hiK]; omega)) rfl rfl rfl rfl ?_; refine dY rfl (y_assign rfl) rfl rfl rfl rfl ?_; refine dEnd ?_)
      rw [hst2]
      repeat (first | refine region_ ?_ | refine nil_ ?_ | refine stepY (y_move rfl) rfl ?_ | refine stepY (y_assign rfl) rfl ?_ | refine stepY (y_binn rfl rfl rfl (by simp only [InK, loK, hiK]; omega)) rfl ?_)
      refine ⟨k + 1, ⟨by omega, by rw [hst]; omega, by rw [hst]; omega⟩, by omega, ?_, ?_⟩
      · (repeat (first | exact sub_nil | refine sub_cons rfl ?_))
      · (repeat (exact subH_nil))
    · have e : k = l.length := by omega
      subst e
      repeat (first | refine seq_ ?_ | refine region_ ?_ | refine nil_ ?_ | refine exit_ ?_ | refine ret_ ?_ | refine cond_f rfl ?_ | refine stepY (y_move rfl) rfl ?_ | refine stepY (y_assign rfl) rfl ?_ | refine stepY (y_len_ps rfl) rfl ?_ | refine stepY (y_cmpF rfl rfl rfl (by omega)) rfl ?_)
      ((apply fin_r); (repeat (first | exact .nil | exact .tmp rfl | apply ResL.cons)); (repeat (exact .refl _)))
  · rw [if_neg (by omega)]
    rw [h0] at hc ⊢
    refine con_of Try.func21 rfl rfl rfl (noT_ps l) rfl ?_
    repeat (first | refine seq_ ?_ | refine region_ ?_ | refine nil_ ?_ | refine stepY (y_move rfl) rfl ?_ | refine stepY (y_assign rfl) rfl ?_)
    refine call_ Try.func39 rfl rfl (hc) rfl (by repeat (first | exact .refl _ | apply Les.cons | exact .nil)) rfl ?_
    repeat (first | refine seq_ ?_ | refine region_ ?_ | refine nil_ ?_ | refine ret_ ?_ | refine cond_t rfl ?_ | refine stepY (y_move rfl) rfl ?_ | refine stepY (y_assign rfl) rfl ?_ | refine stepY (y_cmpT rfl rfl rfl (by omega)) rfl ?_)
    ((apply fin_r); (repeat (first | exact .nil | exact .tmp rfl | apply ResL.cons)); (repeat (exact .refl _)))
  · rw [if_neg (by omega)]
    rw [h0] at hc ⊢
    refine con_of Try.func21 rfl rfl rfl (noT_ps l) rfl ?_
    repeat (first | refine seq_ ?_ | refine region_ ?_ | refine nil_ ?_ | refine stepY (y_move rfl) rfl ?_ | refine stepY (y_assign rfl) rfl ?_)
    refine call_ Try.func39 rfl rfl (hc) rfl (by repeat (first | exact .refl _ | apply Les.cons | exact .nil)) rfl ?_
    repeat (first | refine seq_ ?_ | refine region_ ?_ | refine nil_ ?_ | refine ret_ ?_ | refine cond_t rfl ?_ | refine stepY (y_move rfl) rfl ?_ | refine stepY (y_assign rfl) rfl ?_ | refine stepY (y_cmpT rfl rfl rfl (by omega)) rfl ?_)
    ((apply fin_r); (repeat (first | exact .nil | exact .tmp rfl | apply ResL.cons)); (repeat (exact .refl _)))
end Go.Av

set_option maxHeartbeats 8000000
set_option exponentiation.threshold 100000
set_option maxRecDepth 100000
set_option linter.unusedVariables false
set_option linter.unusedSimpArgs false
namespace Go.Av
open Go Go.Proofs

open Go.RowKit
def hlR (l : List Pt) : List Pt × Int := if chkR l ≠ 0 then ([], chkR l) else if l.length = 0 then ([], 5) else (hullF l, 0)
theorem Hull_c (l : List Pt) : Con Try.prog 10 [.ss false 2 (pts l)] (.tp [.ss true 2 (pts (hlR l).1), E_ (hlR l).2]) := by
  have hc := check_c l
  unfold hlR
  by_cases h0 : chkR l = 0
  · rw [if_neg (not_not_intro h0)]
    rw [h0] at hc
    obtain ⟨hn, hall⟩ := chk_ok h0
    by_cases h1 : l.length = 0
    · rw [if_pos h1]
      refine con_of Try.func10 rfl rfl rfl (noT_ps l) rfl ?_
      repeat (first | refine seq_ ?_ | refine region_ ?_ | refine nil_ ?_ | refine stepY (y_move rfl) rfl ?_ | refine stepY (y_assign rfl) rfl ?_)
      refine call_ Try.func32 rfl rfl (hc) rfl (by repeat (first | exact .refl _ | apply Les.cons | exact .nil)) rfl ?_
      repeat (first | refine seq_ ?_ | refine region_ ?_ | refine nil_ ?_ | refine skip_ ?_ | refine ret_ ?_ | refine cond_t rfl ?_ | refine cond_f rfl ?_ | refine stepY (y_move rfl) rfl ?_ | refine stepY (y_assign rfl) rfl ?_ | refine stepY (y_len_ps rfl) rfl ?_ | refine stepY (y_cmpT rfl rfl rfl (by omega)) rfl ?_ | refine stepY (y_cmpF rfl rfl rfl (by omega)) rfl ?_)
      ((apply fin_r); (repeat (first | exact .nil | exact .tmp rfl | apply ResL.cons)); (repeat (first | exact .refl _ | exact .nils _ _ | apply Le.tp | apply Les.cons | exact .nil)))
    · rw [if_neg h1]
      have hh := ConRM.con (stab_pts _) (hull_c l (fun e => h1 (by rw [e]; rfl)) hall hn)
      refine con_of Try.func10 rfl rfl rfl (noT_ps l) rfl ?_
      repeat (first | refine seq_ ?_ | refine region_ ?_ | refine nil_ ?_ | refine stepY (y_move rfl) rfl ?_ | refine stepY (y_assign rfl) rfl ?_)
      refine call_ Try.func32 rfl rfl (hc) rfl (by repeat (first | exact .refl _ | apply Les.cons | exact .nil)) rfl ?_
      repeat (first | refine seq_ ?_ | refine region_ ?_ | refine nil_ ?_ | refine skip_ ?_ | refine cond_f rfl ?_ | refine stepY (y_move rfl) rfl ?_ | refine stepY (y_assign rfl) rfl ?_ | refine stepY (y_len_ps rfl) rfl ?_ | refine stepY (y_cmpF rfl rfl rfl (by omega)) rfl ?_ | refine stepY (y_cmpF rfl rfl rfl (by omega)) rfl ?_)
      refine call_ Try.func33 rfl rfl (hh) rfl (by repeat (first | exact .refl _ | apply Les.cons | exact .nil)) rfl ?_
      repeat (first | refine nil_ ?_ | refine ret_ ?_ | refine stepY (y_assign rfl) rfl ?_)
      ((apply fin_r); (repeat (first | exact .nil | exact .tmp rfl | apply ResL.cons)); (repeat (exact .refl _)))
  · rw [if_pos h0]
    refine con_of Try.func10 rfl rfl rfl (noT_ps l) rfl ?_
    repeat (first | refine seq_ ?_ | refine region_ ?_ | refine nil_ ?_ | refine stepY (y_move rfl) rfl ?_ | refine stepY (y_assign rfl) rfl ?_)
    refine call_ Try.func32 rfl rfl (hc) rfl (by repeat (first | exact .refl _ | apply Les.cons | exact .nil)) rfl ?_
    repeat (first | refine seq_ ?_ | refine region_ ?_ | refine nil_ ?_ | refine ret_ ?_ | refine cond_t rfl ?_ | refine stepY (y_move rfl) rfl ?_ | refine stepY (y_assign rfl) rfl ?_ | refine stepY (y_cmpT rfl rfl rfl (by omega)) rfl ?_)
    ((apply fin_r); (repeat (first | exact .nil | exact .tmp rfl | apply ResL.cons)); (repeat (first | exact .refl _ | exact .nils _ _ | apply Le.tp | apply Les.cons | exact .nil)))
end Go.Av

set_option maxHeartbeats 8000000
set_option exponentiation.threshold 100000
set_option maxRecDepth 100000
set_option linter.unusedVariables false
set_option linter.unusedSimpArgs false
namespace Go.Av
open Go Go.Proofs

open Go.RowKit
theorem at_eq {a b : List Pt} {k : Nat} (hl : a.length = b.length) (h : k < a.length) (ht : a.take k = b.take k) (e : at_ a k = at_ b k) : a.take (k + 1) = b.take (k + 1) := by
  rw [take_at h, take_at (by omega), ht, e]
theorem Points_c (a b : List Pt) : Con Try.prog 11 [.ss false 2 (pts a), .ss false 2 (pts b)] (Bo (decide (a = b))) := by
  refine con_of Try.func11 rfl rfl rfl (by simp [noTs, noT, noT_pts]) rfl ?_
  refine len_Cs (i := 0) rfl (fun hL0 => ?_)
  have hL : a.length < 281474976710656 := by simpa using hL0
  by_cases hl : a.length = b.length
  · repeat (first | refine seq_ ?_ | refine region_ ?_ | refine nil_ ?_ | refine skip_ ?_ | refine block_ ?_ | refine cond_f rfl ?_ | refine stepY (y_move rfl) rfl ?_ | refine stepY (y_assign rfl) rfl ?_ | refine stepY (y_len_ps rfl) rfl ?_ | refine stepY (y_cmpF rfl rfl rfl (by omega)) rfl ?_)
    refine loop_ (α := Nat) (fun k => ([(0, .p (.ss false 2 (pts a))), (1, .p (.ss false 2 (pts b))), (5, .p (I k))], [])) (fun k => k ≤ a.length ∧ a.take k = b.take k) (fun k => a.length - k) 0 ⟨by omega, rfl⟩ ?_ ?_ ?_
    · (repeat (first | exact sub_nil | refine sub_cons rfl ?_))
    · (repeat (exact subH_nil))
    rintro k ⟨hk, ht⟩
    by_cases h : k < a.length
    · have hq := eqI_pt (at_ a (k : Int)) (at_ b (k : Int))
      by_cases e : at_ a (k : Int) = at_ b (k : Int)
      · rw [decide_eq_true e] at hq
        have ht2 := at_eq hl h ht e
        repeat (first | refine seq_ ?_ | refine region_ ?_ | refine nil_ ?_ | refine skip_ ?_ | refine block_ ?_ | refine cond_t rfl ?_ | refine stepY (y_move rfl) rfl ?_ | refine stepY (y_len_ps rfl) rfl ?_ | refine stepY (y_cmpT rfl rfl rfl (by omega)) rfl ?_)
        refine draw_ [(0, true), (1, true), (2, true), (3, true), (4, true), (5, true), (6, true), (7, true), (8, true)] 1000 [] mixed (by kernel_rfl) rfl ?_
        ((refine dY rfl (y_move rfl) rfl rfl rfl rfl ?_); refine dY rfl (y_move rfl) rfl rfl rfl rfl ?_; refine dY rfl (y_index_ps rfl rfl (by omega) (by omega)) rfl rfl rfl rfl ?_; refine dY rfl (y_load_rcA rfl rfl) rfl rfl rfl rfl ?_; refine dY rfl (y_move rfl) rfl rfl rfl rfl ?_; refine dY rfl (y_move rfl) rfl rfl rfl rfl ?_; refine dY rfl (y_index_ps rfl rfl (by omega) (by omega)) rfl rfl rfl rfl ?_; refine dY rfl (y_load_rcA rfl rfl) rfl rfl rfl rfl ?_; refine dY rfl (y_neI rfl rfl rfl rfl rfl rfl (by assumption)) rfl rfl rfl rfl ?_; refine dEnd ?_)
        repeat (first | refine region_ ?_ | refine nil_ ?_ | refine skip_ ?_ | refine cond_f rfl ?_ | refine stepY (y_move rfl) rfl ?_ | refine stepY (y_assign rfl) rfl ?_ | refine stepY (y_binn rfl rfl rfl (by simp only [InK, loK, hiK]; omega)) rfl ?_)
        refine ⟨k + 1, ⟨by omega, ht2⟩, by omega, ?_, ?_⟩
        · (repeat (first | exact sub_nil | refine sub_cons rfl ?_))
        · (repeat (exact subH_nil))
      · rw [decide_eq_false e] at hq
        rw [decide_eq_false (fun h => e (by rw [h]))]
        repeat (first | refine seq_ ?_ | refine region_ ?_ | refine nil_ ?_ | refine skip_ ?_ | refine block_ ?_ | refine cond_t rfl ?_ | refine stepY (y_move rfl) rfl ?_ | refine stepY (y_len_ps rfl) rfl ?_ | refine stepY (y_cmpT rfl rfl rfl (by omega)) rfl ?_)
        refine draw_ [(0, true), (1, true), (2, true), (3, true), (4, true), (5, true), (6, true), (7, true), (8, true)] 1000 [] mixed (by kernel_rfl) rfl ?_
        ((refine dY rfl (y_move rfl) rfl rfl rfl rfl ?_); refine dY rfl (y_move rfl) rfl rfl rfl rfl ?_; refine dY rfl (y_index_ps rfl rfl (by omega) (by omega)) rfl rfl rfl rfl ?_; refine dY rfl (y_load_rcA rfl rfl) rfl rfl rfl rfl ?_; refine dY rfl (y_move rfl) rfl rfl rfl rfl ?_; refine dY rfl (y_move rfl) rfl rfl rfl rfl ?_; refine dY rfl (y_index_ps rfl rfl (by omega) (by omega)) rfl rfl rfl rfl ?_; refine dY rfl (y_load_rcA rfl rfl) rfl rfl rfl rfl ?_; refine dY rfl (y_neI rfl rfl rfl rfl rfl rfl (by assumption)) rfl rfl rfl rfl ?_; refine dEnd ?_)
        repeat (first | refine seq_ ?_ | refine region_ ?_ | refine nil_ ?_ | refine ret_ ?_ | refine cond_t rfl ?_ | refine stepY (y_assign rfl) rfl ?_)
        ((apply fin_r); (repeat (first | exact .nil | exact .tmp rfl | apply ResL.cons)); (repeat (exact .refl _)))
    · have e : k = a.length := by omega
      rw [List.take_of_length_le (by omega), List.take_of_length_le (by omega)] at ht
      rw [decide_eq_true ht]
      repeat (first | refine seq_ ?_ | refine region_ ?_ | refine nil_ ?_ | refine exit_ ?_ | refine ret_ ?_ | refine cond_f rfl ?_ | refine stepY (y_move rfl) rfl ?_ | refine stepY (y_assign rfl) rfl ?_ | refine stepY (y_len_ps rfl) rfl ?_ | refine stepY (y_cmpF rfl rfl rfl (by omega)) rfl ?_)
      ((apply fin_r); (repeat (first | exact .nil | exact .tmp rfl | apply ResL.cons)); (repeat (exact .refl _)))
  · rw [decide_eq_false (fun e => hl (by rw [e]))]
    repeat (first | refine seq_ ?_ | refine region_ ?_ | refine nil_ ?_ | refine ret_ ?_ | refine cond_t rfl ?_ | refine stepY (y_move rfl) rfl ?_ | refine stepY (y_assign rfl) rfl ?_ | refine stepY (y_len_ps rfl) rfl ?_ | refine stepY (y_cmpT rfl rfl rfl (by omega)) rfl ?_)
    ((apply fin_r); (repeat (first | exact .nil | exact .tmp rfl | apply ResL.cons)); (repeat (exact .refl _)))
end Go.Av
