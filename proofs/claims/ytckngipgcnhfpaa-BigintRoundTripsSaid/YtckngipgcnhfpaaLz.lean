import Derived.Test.YtckngipgcnhfpaaLr
import Derived.Test.YtckngipgcnhfpaaLa
import Derived.Shelf.SlicesE.IndexFunc
import Derived.Lib.SliceRun
import Derived.KernelRfl
set_option maxHeartbeats 8000000
set_option maxRecDepth 100000
set_option linter.unusedVariables false
set_option linter.unusedSimpArgs false
namespace Go.Proofs
open Go.Shelf Go.RowKit Go.Lib
/-- slices.ContainsFunc as the library's contract has it: the numbers of this program. -/
def Try.layCF_ren : Go.Shelf.Ren := ⟨fun | 8 => 75 | 6 => 92 | n => n, fun | 22 => 42 | 23 => 3 | 25 => 77 | 4 => 4 | 3 => 3 | 0 => 0 | n => n, fun | n => n⟩
theorem Try.layCF : Go.Proofs.SlLaysH.n8 Try.prog Try.layCF_ren := {
  mixed := by kernel_rfl
  f6 := ⟨Try.f92.name, by decide, Try.func92.trans (congrArg some (by kernel_rfl))⟩
  f8 := ⟨Try.f75.name, by decide, Try.func75.trans (congrArg some (by kernel_rfl))⟩
  t0 := Try.underlying0
  a0 := Try.isAgg0
  z0 := Try.sizeOf0
  v0 := Try.zeroValue0
  t3 := Try.underlying3
  a3 := Try.isAgg3
  z3 := Try.sizeOf3
  v3 := Try.zeroValue3
  t4 := Try.underlying4
  a4 := Try.isAgg4
  z4 := Try.sizeOf4
  v4 := Try.zeroValue4
  t22 := Try.underlying42
  a22 := Try.isAgg42
  z22 := Try.sizeOf42
  v22 := Try.zeroValue42
  a23 := Try.isAgg3
  z23 := Try.sizeOf3
  t25 := Try.underlying77
  a25 := Try.isAgg77
  z25 := Try.sizeOf77
  v25 := Try.zeroValue77 }
/-- The closure of FromDigits: is a digit out of its range? -/
theorem Try.predOut (n : Int) (B : Nat) (w : World) (hB : B < w.heap.size) (hcell : w.cell? ⟨B, 0, none⟩ = some (.int .i64 n)) :
    PredAt Try.prog 76 #[.pointer (some ⟨B, 0, none⟩)] (Value.int .i64) (fun x => decide (x < 0) || decide (n ≤ x)) w := fun W x hb => by
  have hc : W.cell? ⟨B, 0, none⟩ = some (.int .i64 n) := (hb.cell (p := ⟨B, 0, none⟩) hB).trans hcell
  show Calls Try.prog 76 #[.int .i64 x, .pointer (some ⟨B, 0, none⟩)] W _
  go_enter Try.func76, Try.ntmps76
  go_wp2
  all_goals (go_ret; exact ⟨by simp_all, 0, rfl⟩)
end Go.Proofs
namespace Go.Av
open Go Go.Proofs Go.RowKit Go.Shelf Go.Lib
/-- Function f, called with a row and the closure of function g over one variable, answers b. -/
def ConP (P : Program) (f g : FuncId) (l : List Int) (n : Int) (b : Bool) : Prop :=
  ∀ (w : World) (B : Nat) (sv : Value), B < w.heap.size → w.cell? ⟨B, 0, none⟩ = some (.int .i64 n) → Rel w (fun _ b => b < w.heap.size) (.si false .i64 l) sv →
    Calls P f #[sv, .func (.func g) #[] #[.pointer (some ⟨B, 0, none⟩)]] w fun e w' => e = .returned (.bool b) ∧ Below w.heap.size w w'
theorem contains_p (l : List Int) (n : Int) : ConP Try.prog 75 76 l n (l.any fun x => decide (x < 0) || decide (n ≤ x)) := by
  intro w B sv hB hcell hr
  have eg : ∀ args w, (callFunc 76 args).run Try.prog w = .ok (.enter 76 args) w := enters_of Try.func76 (by kernel_rfl) rfl
  simp only [Rel] at hr
  obtain ⟨A, c, rfl, hc, hm, hl, hx⟩ := hr
  simp only [lim] at hl
  rcases Nat.eq_zero_or_pos l.length with h0 | h0
  · have : l = [] := List.eq_nil_of_length_eq_zero h0
    subst this
    have := AnyE.slices_ContainsFunc_empty Try.layCF A c (.func (.func 76) #[] #[.pointer (some ⟨B, 0, none⟩)]) w
    refine this.mono fun e w' ⟨he, hw⟩ => ⟨he, ?_⟩
    rw [hw]
    exact Below.refl _ w
  · obtain ⟨b, o, rfl, hb, hcells⟩ := hx h0
    have := AnyE.slices_ContainsFunc Try.layCF (Value.int .i64) (fun x => decide (x < 0) || decide (n ≤ x)) 76 #[.pointer (some ⟨B, 0, none⟩)] eg b o l.length c l w
      (Try.predOut n B w hB hcell) (Nat.le_refl _) (by omega) (fun j hj => by
        have := hcells j l[j] (List.getElem?_eq_getElem hj)
        rw [this, getElem!_pos l j hj])
    refine this.mono fun e w' ⟨he, q, hw⟩ => ⟨?_, ?_⟩
    · rw [he, List.take_length]
    · rw [hw]
      exact below_drewN' (Below.refl _ w) q
section
variable {P : Program} {N : Nat} {E : Env} {H : Hp} {Q : Exit → Env → Hp → Prop} {ops : Array Oper} {rest : List Oper}
theorem clo_L {d1 d2 h c : Nat} {f g : FuncId} {fn : Func} {x : Operand} {ts : Array TypeId} {ty1 ty2 : TypeId} {pos1 pos2 : String} {af1 af2 : Array Edge} {fl : Bool} {l : List Int} {n : Int} {b : Bool} (hf : P.funcs[f]? = some fn) (hn : (fn.name == "runtime.NumGoroutine") = false) (hb : fn.body.isNone = false)
    (hc : ConP P f g l n b) (hp : lk c E = some (.ptr h 0)) (hm : hk h H = some (.bx [.v (.int .i64 n)])) (hx : evT ((d1, .junk) :: E) x = some (.p (.si fl .i64 l))) (hd1 : Nat.blt d1 N = true) (hd2 : Nat.blt d2 N = true)
    (k : TrL P N ops rest ((d2, .p (.v (.bool b))) :: (d1, .junk) :: E) H Q) :
    TrL P N ops (⟨some d1, .makeFunc (.func g) #[] #[.tmp c], ty1, pos1, af1, none⟩ :: ⟨some d2, .call { callee := .value (.func f), args := #[x, .tmp d1], argTypes := ts }, ty2, pos2, af2, none⟩ :: rest) E H Q := by
  unfold TrL at k ⊢
  intro okA w0 ρ tmps w r
  have h0 := ev_rel r (o := .tmp c) hp
  simp only [RelT] at h0
  obtain ⟨B, hg, ea⟩ := h0
  have hbx := r.heap h _ hm
  simp only [RelB] at hbx
  obtain ⟨g', t', ys, hg', _, hh, hys, _⟩ := hbx
  rw [hg] at hg'
  simp only [Value.pointer.injEq, Option.some.injEq, Addr.mk.injEq, and_true] at hg'
  subst hg'
  simp only [Rels, Rel] at hys
  obtain ⟨_, _, rfl, rfl, rfl⟩ := hys
  have hB := (Array.getElem?_eq_some_iff.1 hh).1
  have hcell : w.cell? ⟨B, 0, none⟩ = some (.int .i64 n) := by simp [World.cell?, hh]
  refine wpList_plain rfl fun K hK => ?_
  have hrun : (execOp (Act.eval ⟨tmps, []⟩) ⟨some d1, .makeFunc (.func g) #[] #[.tmp c], ty1, pos1, af1, none⟩).run P w = .ok (.value (.func (.func g) #[] #[.pointer (some ⟨B, 0, none⟩)])) w := by
    simp [execOp, Instr.makeFunc, ea]
  simp only [Oper.wp, hrun, Oper.upon]
  refine hK _ _ ?_
  have r1 := r.junk (Nat.le_of_ble_eq_true hd1) (.func (.func g) #[] #[.pointer (some ⟨B, 0, none⟩)])
  have hv : Act.eval ⟨tmps.setIfInBounds d1 (.func (.func g) #[] #[.pointer (some ⟨B, 0, none⟩)]), []⟩ (.tmp d1) = .func (.func g) #[] #[.pointer (some ⟨B, 0, none⟩)] := by
    have : d1 < tmps.size := Nat.lt_of_lt_of_le (Nat.le_of_ble_eq_true hd1) r.size
    simp [Act.eval, this]
  have hsx := ev_rel r1 hx
  simp only [RelT] at hsx
  generalize hsv : Act.eval ⟨tmps.setIfInBounds d1 (.func (.func g) #[] #[.pointer (some ⟨B, 0, none⟩)]), []⟩ x = sv at hsx
  have hsx2 : Rel w (fun _ b => b < w.heap.size) (.si false .i64 l) sv := by
    have := Rel.mono (ok' := fun _ b => b < w.heap.size) (fun f b hb => hb.1) (fun _ _ _ => rfl) _ _ hsx
    simp only [Rel] at this ⊢
    exact this
  have hst : Act.put ⟨tmps, []⟩ (some d1) (.func (.func g) #[] #[.pointer (some ⟨B, 0, none⟩)]) = ⟨tmps.setIfInBounds d1 (.func (.func g) #[] #[.pointer (some ⟨B, 0, none⟩)]), []⟩ := rfl
  refine wpList_plain rfl fun K2 hK2 => ?_
  have hrun2 : (execOp (Act.eval ⟨tmps.setIfInBounds d1 (.func (.func g) #[] #[.pointer (some ⟨B, 0, none⟩)]), []⟩) ⟨some d2, .call { callee := .value (.func f), args := #[x, .tmp d1], argTypes := ts }, ty2, pos2, af2, none⟩).run P w = .ok (.enter f #[sv, .func (.func g) #[] #[.pointer (some ⟨B, 0, none⟩)]]) w := by
    have hn' : ¬ fn.name = "runtime.NumGoroutine" := by simpa using hn
    have hb' : ¬ fn.body = none := by intro h; rw [h] at hb; simp at hb
    have e0 : Act.eval ⟨tmps.setIfInBounds d1 (.func (.func g) #[] #[.pointer (some ⟨B, 0, none⟩)]), []⟩ (.func f) = .func (.func f) #[] #[] := rfl
    simp [execOp, resolve, Deferred.ofValue, e0, hsv, hv, invoke, callFunc, hf, hn', hb']
  simp only [Oper.wp, hst, hrun2, Oper.upon]
  refine (hc w B sv hB hcell hsx2).mono fun e w' ⟨he, hbel⟩ => ?_
  subst he
  have r2 := r1.world hbel
  exact hK2 _ _ (k okA w0 ρ _ w' (r2.put (Nat.le_of_ble_eq_true hd2) (x := .p (.v (.bool b))) (by simp only [RelT, Rel])))
end
end Go.Av
