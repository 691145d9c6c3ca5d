import Derived.Test.YtckngipgcnhfpaaAw
set_option linter.unusedVariables false
set_option linter.unusedSimpArgs false
/-! Regions that draw their order, every order gone through: for operations that make memory at any time. -/
namespace Go.Av
open Go Go.RowKit
section
variable {P : Program} {N : Nat} {E : Env} {H : Hp} {Q : Exit → Env → Hp → Prop} {ops : Array Oper} {sx fuel : Nat} {listed : Array Bool} {ob ph : Bool} {St : List Nat}
def TrX (P : Program) (N : Nat) (ops : Array Oper) (x fuel : Nat) (listed : Array Bool) (op ph : Bool) (St : List Nat) (E : Env) (H : Hp) (Q : Exit → Env → Hp → Prop) : Prop :=
  ∀ okA w0 ρ tmps w (w1 : World) (stab : Nat → Prop), Rep okA w0 N ρ E H tmps w →
    (op = true → ∀ b, stab b → b < w.heap.size ∧ w.heap[b]? = w1.heap[b]?) → (op = true → ∀ h ∈ St, ∀ m b, hk h H = some m → blk (ρ h) = some b → stab b) → (op = true → ∀ h m b, hk h H = some m → h ∉ St → blk (ρ h) = some b → ¬ stab b) →
    (op = true → ph = true → ∀ f b, okF okA w0.heap.size ρ H w.heap.size f b → stab b) → listed.getD x false = !op →
    wpAnyS P .any ops (Post okA w0 N Q) x (fun W => ∀ b, stab b → W.heap[b]? = w1.heap[b]?) fuel listed ⟨tmps, []⟩ w
def TrI (P : Program) (N : Nat) (ops : Array Oper) (x fuel : Nat) (listed : Array Bool) (i : Nat) (op ph : Bool) (St : List Nat) (E : Env) (H : Hp) (Q : Exit → Env → Hp → Prop) : Prop :=
  ∀ okA w0 ρ tmps w (w1 : World) (stab : Nat → Prop), Rep okA w0 N ρ E H tmps w →
    (op = true → ∀ b, stab b → b < w.heap.size ∧ w.heap[b]? = w1.heap[b]?) → (op = true → ∀ h ∈ St, ∀ m b, hk h H = some m → blk (ρ h) = some b → stab b) → (op = true → ∀ h m b, hk h H = some m → h ∉ St → blk (ρ h) = some b → ¬ stab b) →
    (op = true → ph = true → ∀ f b, okF okA w0.heap.size ρ H w.heap.size f b → stab b) → listed.getD x false = !op →
    wpOp P ops (Post okA w0 N Q) i (fun a' w' => ((listed.setIfInBounds i true).getD x false = false → (fun W : World => ∀ b, stab b → W.heap[b]? = w1.heap[b]?) w') ∧ wpAnyS P .any ops (Post okA w0 N Q) x (fun W => ∀ b, stab b → W.heap[b]? = w1.heap[b]?) fuel (listed.setIfInBounds i true) a' w') ⟨tmps, []⟩ w
def AllX (P : Program) (N : Nat) (ops : Array Oper) (x fuel : Nat) (listed : Array Bool) (op ph : Bool) (St : List Nat) (E : Env) (H : Hp) (Q : Exit → Env → Hp → Prop) : List Nat → Prop
  | [] => True
  | i :: r => TrI P N ops x fuel listed i op ph St E H Q ∧ AllX P N ops x fuel listed op ph St E H Q r
theorem AllX.mem : ∀ {rs : List Nat}, AllX P N ops sx fuel listed ob ph St E H Q rs → ∀ i ∈ rs, TrI P N ops sx fuel listed i ob ph St E H Q
  | [], _, i, hi => by simp at hi
  | j :: r, h, i, hi => by
    rcases List.mem_cons.1 hi with rfl | hi
    · exact h.1
    · exact h.2.mem i hi
theorem xAll {rs : List Nat} (hr : Region.ready .any ops listed = rs) (hne : rs.isEmpty = false) (h : AllX P N ops sx fuel listed ob ph St E H Q rs) : TrX P N ops sx (fuel + 1) listed ob ph St E H Q := by
  intro okA w0 ρ tmps w w1 stab r h1 h2 h3 h4 h5
  refine wpAnyS_all hr (by intro e; rw [e] at hne; cases hne) (fun i hi => ?_)
  exact h.mem i hi okA w0 ρ tmps w w1 stab r h1 h2 h3 h4 h5
theorem xEnd (hr : (Region.ready .any ops listed).isEmpty = true) (h : Q .normal E H) : TrX P N ops sx fuel listed ob ph St E H Q := by
  intro okA w0 ρ tmps w w1 stab r _ _ _ _ _
  exact wpAnyS_done (List.isEmpty_iff.1 hr) ⟨by simp, by simp, rfl, ρ, E, H, r, h⟩ _
theorem xDraw {id : Nat} {l : List Oper} (sx : Nat) (St : List Nat) (hm : P.follows .mixedOrders = true)
    (h : TrX P N l.toArray sx l.length (Array.replicate l.toArray.size false) true true St E H Q) : Tr P N (.region id l.toArray true) E H Q := by
  unfold Tr
  intro okA w0 ρ tmps w r
  have r' : Rep okA w0 N ρ E H tmps { w with drawn := w.drawn + 1 } := r.world ((Below.refl _ _).drew)
  refine wp_region_any hm (wpAny_of_S (x := sx) (T := fun W => ∀ b, (b < w.heap.size ∧ ∀ h m, hk h H = some m → h ∉ St → blk (ρ h) ≠ some b) → W.heap[b]? = w.heap[b]?) _ _ _ _ ?_)
  have := h okA w0 ρ tmps _ w (fun b => b < w.heap.size ∧ ∀ h m, hk h H = some m → h ∉ St → blk (ρ h) ≠ some b) r' (fun _ b hb => ⟨hb.1, rfl⟩) ?_ ?_ ?_ ?_
  · simpa using this
  · intro _ h hs m b hm hb
    refine ⟨(r.blk_lt hm hb).2, fun h' m' hm' hn e => ?_⟩
    exact r.disj h h' m m' b hm hm' (fun e => hn (e ▸ hs)) hb e
  · intro _ h m b hm hn hb hc
    exact hc.2 h m hm hn hb
  · intro _ _ f b hb
    exact ⟨hb.1, fun h m hm hn => hb.2.1 h m hm⟩
  · rw [Array.getD_eq_getD_getElem?]
    cases hq : (Array.replicate l.toArray.size false)[sx]? with
    | none => rfl
    | some v =>
      rw [Array.getElem?_replicate] at hq
      split at hq
      · simp at hq; subst hq; rfl
      · cases hq
/-- Taken first: it yields the same whenever it comes up. -/
theorem xY {i d : Nat} {op : Op} {ty : TypeId} {pos : String} {af : Array Edge} {g : Option (Nat × Bool)} {x : TV} {rd : Rd} (hi : ops[i]? = some ⟨some d, op, ty, pos, af, g⟩) (h : Yl P op ty E H x rd) (hg : wantB ops E g = some true) (hrd : rdOk ops sx i ob ph St rd = true) (hin : rdIn H rd = true) (hd : Nat.blt d N = true)
    (hf : (Region.noSelect ops && (Region.free .any ops listed i && (Region.ready .any ops listed).contains i)) = true)
    (k : TrX P N ops sx fuel (listed.setIfInBounds i true) ob ph St ((d, x) :: E) H Q) : TrX P N ops sx (fuel + 1) listed ob ph St E H Q := by
  intro okA w0 ρ tmps w w1 stab r h1 h2 h3 h4 h5
  simp only [Bool.and_eq_true] at hf
  obtain ⟨hs, hf, hr⟩ := hf
  have hne := rdOk_ne hrd
  obtain ⟨y, hrel, S', hS1, hS2, hS3, hrun⟩ := yields_if r (o := ⟨some d, op, ty, pos, af, g⟩) (i := i) rfl rfl h hrd (rdIn_spec hin) h1 h2 h4
  refine wpAnyS_take hi hne hs hf hr post_panic hS1 (.inl ⟨want_spec r hg, hrun⟩) hS2 (fun h => fun b hb => (h1 (by rw [h5] at h; simpa using h) b hb).2) (hS3.imp id (fun e => by rw [h5, e]; rfl)) ?_
  exact k okA w0 ρ _ w w1 stab (r.put (Nat.le_of_ble_eq_true hd) hrel) h1 h2 h3 h4 (by rw [getD_set_ne false hne]; exact h5)
theorem iY {i d : Nat} {op : Op} {ty : TypeId} {pos : String} {af : Array Edge} {g : Option (Nat × Bool)} {x : TV} {rd : Rd} (hi : ops[i]? = some ⟨some d, op, ty, pos, af, g⟩) (h : Yl P op ty E H x rd) (hg : wantB ops E g = some true) (hd : Nat.blt d N = true) (hx : Nat.beq i sx = false)
    (k : TrX P N ops sx fuel (listed.setIfInBounds i true) ob ph St ((d, x) :: E) H Q) : TrI P N ops sx fuel listed i ob ph St E H Q := by
  intro okA w0 ρ tmps w w1 stab r h1 h2 h3 h4 h5
  have hne : i ≠ sx := fun e => by subst e; rw [Nat.beq_refl] at hx; cases hx
  unfold Yl at h
  obtain ⟨y, hrun, hrel⟩ := h okA w0 N ρ tmps w r
  unfold wpOp
  simp only [hi]
  rw [if_pos (want_spec r hg)]
  refine .inl ?_
  have := hrun w (rd.same_refl _ _ _) (some d) pos af g
  simp only [Oper.wp, this, Oper.upon]
  exact ⟨fun h b hb => (h1 (notT h5 hne h) b hb).2, k okA w0 ρ _ w w1 stab (r.put (Nat.le_of_ble_eq_true hd) hrel) h1 h2 h3 h4 (by rw [getD_set_ne false hne]; exact h5)⟩
theorem iE {i : Nat} {dst : Option Tmp} {op : Op} {ty : TypeId} {pos : String} {af : Array Edge} {g : Option (Nat × Bool)} {E' : Env} {H' : Hp} {W : List Nat} (hi : ops[i]? = some ⟨dst, op, ty, pos, af, g⟩) (h : Eff P N dst op ty E H E' H' W) (hg : wantB ops E g = some true) (hW : (!(Nat.beq i sx) && W.all fun h => !St.any (Nat.beq h)) = true)
    (k : TrX P N ops sx fuel (listed.setIfInBounds i true) ob false St E' H' Q) : TrI P N ops sx fuel listed i ob ph St E H Q := by
  intro okA w0 ρ tmps w w1 stab r h1 h2 h3 h4 h5
  rw [Bool.and_eq_true] at hW
  obtain ⟨hx, hW⟩ := hW
  have hne : i ≠ sx := fun e => by subst e; rw [Nat.beq_refl] at hx; cases hx
  have hWS : ∀ h ∈ W, h ∉ St := by
    intro h hw hst
    have := List.all_eq_true.1 hW h hw
    simp only [Bool.not_eq_true', List.any_eq_false] at this
    exact this h hst (by simp)
  unfold Eff at h
  obtain ⟨n, y, ρ', w', hrun, hn, hr', hfr, hsz, hag, hold, hnew⟩ := h okA w0 ρ tmps w r
  have h1' : ob = true → ∀ b, stab b → b < w'.heap.size ∧ w'.heap[b]? = w1.heap[b]? := fun ho b hb => by
    obtain ⟨hb1, hb2⟩ := h1 ho b hb
    refine ⟨Nat.lt_of_lt_of_le hb1 hsz, ?_⟩
    rw [hfr b hb1 (fun h hw m hm e => h3 ho h m b hm (hWS h hw) e hb)]
    exact hb2
  have hk' := k okA w0 ρ' _ w' w1 stab hr' h1' (fun ho h hs m b hm hb => by
      have hnw : h ∉ W := fun hw => hWS h hw hs
      obtain ⟨m0, hm0⟩ := hold h m hm hnw
      rw [hag h hnw] at hb
      exact h2 ho h hs m0 b hm0 hb)
    (fun ho h m b hm hn' hb hst => by
      by_cases hw : h ∈ W
      · rcases hnew h hw b hb with h5 | ⟨m0, h5, h6⟩
        · have := (h1 ho b hst).1; omega
        · exact h3 ho h m0 b h5 hn' h6 hst
      · obtain ⟨m0, hm0⟩ := hold h m hm hw
        rw [hag h hw] at hb
        exact h3 ho h m0 b hm0 hn' hb hst) (fun _ e => by cases e) (by rw [getD_set_ne false hne]; exact h5)
  unfold wpOp
  simp only [hi]
  rw [if_pos (want_spec r hg)]
  refine .inl ?_
  have := hrun pos af g
  simp only [Oper.wp, this]
  rcases hn with rfl | ⟨rfl, rfl⟩
  · simp only [Oper.upon]
    rw [put_nil]
    exact ⟨fun h b hb => (h1' (notT h5 hne h) b hb).2, hk'⟩
  · simp only [Oper.upon]
    rw [put_nil]
    exact ⟨fun h b hb => (h1' (notT h5 hne h) b hb).2, hk'⟩
theorem iC {i d : Nat} {f : FuncId} {fn : Func} {os : Array Operand} {ts : Array TypeId} {ty : TypeId} {pos : String} {af : Array Edge} {g : Option (Nat × Bool)} {args xs : List PV} {res : PV} (hi : ops[i]? = some ⟨some d, .call { callee := .value (.func f), args := os, argTypes := ts }, ty, pos, af, g⟩)
    (hf : P.funcs[f]? = some fn) (hn : (fn.name == "runtime.NumGoroutine") = false) (hb : fn.body.isNone = false) (hc : Con P f args res) (hx : evs E os.toList = some xs) (hle : Les xs args) (hg : wantB ops E g = some true) (hd : (Nat.blt d N && !(Nat.beq i sx)) = true)
    (k : TrX P N ops sx fuel (listed.setIfInBounds i true) ob false St ((d, .p res) :: E) H Q) : TrI P N ops sx fuel listed i ob ph St E H Q := by
  intro okA w0 ρ tmps w w1 stab r h1 h2 h3 h4 h5
  rw [Bool.and_eq_true] at hd
  obtain ⟨hd, hx'⟩ := hd
  have hne : i ≠ sx := fun e => by subst e; rw [Nat.beq_refl] at hx'; cases hx'
  have hcall := call_rep r hc hx hle
  have hrun : (execOp (Act.eval ⟨tmps, []⟩) ⟨some d, .call { callee := .value (.func f), args := os, argTypes := ts }, ty, pos, af, g⟩).run P w = .ok (.enter f (os.map (Act.eval ⟨tmps, []⟩))) w := by
    have hn' : ¬ fn.name = "runtime.NumGoroutine" := by simpa using hn
    have hb' : ¬ fn.body = none := by intro h; rw [h] at hb; simp at hb
    simp [execOp, resolve, Deferred.ofValue, Act.eval, invoke, callFunc, hf, hn', hb']
  unfold wpOp
  simp only [hi]
  rw [if_pos (want_spec r hg)]
  refine .inl ?_
  simp only [Oper.wp, hrun, Oper.upon]
  have harr : os.map (Act.eval ⟨tmps, []⟩) = (os.toList.map (Act.eval ⟨tmps, []⟩)).toArray := by apply Array.ext'; simp
  rw [harr]
  refine hcall.mono fun e w' ⟨y, he, hr', hrel, hbel⟩ => ?_
  subst he
  have h1' : ob = true → ∀ b, stab b → b < w'.heap.size ∧ w'.heap[b]? = w1.heap[b]? := fun ho b hb => ⟨Nat.lt_of_lt_of_le (h1 ho b hb).1 hbel.size, by rw [hbel.block b (h1 ho b hb).1]; exact (h1 ho b hb).2⟩
  exact ⟨fun h b hb => (h1' (notT h5 hne h) b hb).2, k okA w0 ρ _ w' w1 stab (hr'.put (Nat.le_of_ble_eq_true hd) (x := .p res) (by simpa only [RelT] using hrel)) h1' h2 h3 (fun _ e => by cases e) (by rw [getD_set_ne false hne]; exact h5)⟩
/-- What is told behind a piece of code, whatever way it took. -/
def subQ (E1 : Env) (H1 : Hp) : Exit → Env → Hp → Prop := fun e E' H' => e = .normal ∧ (∀ i y, lk i E1 = some y → lk i E' = some y) ∧ (∀ i m, hk i H1 = some m → hk i H' = some m)
theorem cut_ {x y : Code} (E1 : Env) (H1 : Hp) (h1 : Tr P N x E H (subQ E1 H1)) (h2 : Tr P N y E1 H1 Q) : Tr P N x E H (then_ (fun E H => Tr P N y E H Q) Q) := by
  refine h1.conseq fun e E' H' hq => ?_
  obtain ⟨rfl, h3, h4⟩ := hq
  exact h2.sub h3 h4
end
attribute [irreducible] TrX TrI
end Go.Av
