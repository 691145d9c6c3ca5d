import Derived.Test.YtckngipgcnhfpaaAv
set_option linter.unusedVariables false
set_option linter.unusedSimpArgs false
namespace Go.Av
open Go Go.RowKit
section
variable {P : Program} {N : Nat} {E : Env} {H : Hp} {Q : Exit → Env → Hp → Prop} {ops : Array Oper} {rest : List Oper} {c : Code}
theorem y_maxl {x y : Operand} {t ty : TypeId} {k : IntKind} {a b : Int} (hx : evT E x = some (.p (.v (.int k a)))) (hy : evT E y = some (.p (.v (.int k b)))) (h : b ≤ a) : Yl P (.call { callee := .builtin .max, args := #[x, y], argTypes := #[t, t] }) ty E H (.p (.v (.int k a))) .no := by
  have := y_max (P := P) (t := t) (t' := t) (ty := ty) (H := H) hx hy
  have e : (if a < b then b else a) = a := by rw [if_neg (by omega)]
  first | rwa [e] at this | (have e2 : (if b < a then a else b) = a := by (split <;> omega); rwa [e2] at this)
theorem y_maxr {x y : Operand} {t ty : TypeId} {k : IntKind} {a b : Int} (hx : evT E x = some (.p (.v (.int k a)))) (hy : evT E y = some (.p (.v (.int k b)))) (h : a ≤ b) : Yl P (.call { callee := .builtin .max, args := #[x, y], argTypes := #[t, t] }) ty E H (.p (.v (.int k b))) .no := by
  have := y_max (P := P) (t := t) (t' := t) (ty := ty) (H := H) hx hy
  have e : (if a < b then b else a) = b := by split <;> omega
  first | rwa [e] at this | (have e2 : (if b < a then a else b) = b := by (split <;> omega); rwa [e2] at this)
theorem nil_rep {okA : Acc} {w0 : World} {ρ : Nat → Value} {tmps : Array Value} {w : World} (r : Rep okA w0 N ρ E H tmps w) {i : Nat} (e : TypeId) (k : IntKind) (hE : lk i E = some (.p (.v (.slice none 0 0)))) (hf : frE i E = true) (hN : Nat.blt i N = true) :
    Rep okA w0 N (upd ρ i (.slice none 0 0)) ((i, .vec i) :: E) ((i, .vi e k []) :: H) tmps w := by
  have hr := r.row_new (w' := w) (d := i) (m := .vi e k []) (y := .slice none 0 0) ⟨rfl, rfl, rfl, Nat.le_refl _, fun _ _ _ => rfl⟩ (fun b hb => by simp [blk] at hb) hf (pH_lt r hN) (fun _ => by
    simp only [RelB, List.length_nil]
    exact ⟨World.ownsRow_nil w _ e 1, by simp [lim]⟩)
  exact hr.set_env hE (fun y hy => by simp only [RelT, Rel] at hy ⊢; rw [upd_same]; exact hy)
/-- A nil slice is told as a row of the call's own. -/
theorem nil_C {i : Nat} (e : TypeId) (k : IntKind) (hE : lk i E = some (.p (.v (.slice none 0 0)))) (hf : frE i E = true) (hN : Nat.blt i N = true) (kk : Tr P N c ((i, .vec i) :: E) ((i, .vi e k []) :: H) Q) : Tr P N c E H Q := by
  unfold Tr at kk ⊢
  intro okA w0 ρ tmps w r
  exact kk okA w0 _ tmps w (nil_rep r e k hE hf hN)
theorem nil_L {i : Nat} (e : TypeId) (k : IntKind) (hE : lk i E = some (.p (.v (.slice none 0 0)))) (hf : frE i E = true) (hN : Nat.blt i N = true) (kk : TrL P N ops rest ((i, .vec i) :: E) ((i, .vi e k []) :: H) Q) : TrL P N ops rest E H Q := by
  unfold TrL at kk ⊢
  intro okA w0 ρ tmps w r
  exact kk okA w0 _ tmps w (nil_rep r e k hE hf hN)
theorem le_rep {okA : Acc} {w0 : World} {ρ : Nat → Value} {tmps : Array Value} {w : World} (r : Rep okA w0 N ρ E H tmps w) {i : Nat} {x y : PV} (hE : lk i E = some (.p x)) (h : Le x y) : Rep okA w0 N ρ ((i, .p y) :: E) H tmps w :=
  r.set_env hE (fun u hu => by simp only [RelT] at hu ⊢; exact Le.rel (fun b hb => okF.tag hb) h u hu)
/-- Less is told of a temporary. -/
theorem le_C {i : Nat} {x : PV} (y : PV) (hE : lk i E = some (.p x)) (h : Le x y) (kk : Tr P N c ((i, .p y) :: E) H Q) : Tr P N c E H Q := by
  unfold Tr at kk ⊢
  intro okA w0 ρ tmps w r
  exact kk okA w0 _ tmps w (le_rep r hE h)
theorem le_L {i : Nat} {x : PV} (y : PV) (hE : lk i E = some (.p x)) (h : Le x y) (kk : TrL P N ops rest ((i, .p y) :: E) H Q) : TrL P N ops rest E H Q := by
  unfold TrL at kk ⊢
  intro okA w0 ρ tmps w r
  exact kk okA w0 _ tmps w (le_rep r hE h)
theorem le_D {sx : Nat} {plan : List (Nat × Bool)} {ob ph : Bool} {St : List Nat} {i : Nat} {x : PV} (y : PV) (hE : lk i E = some (.p x)) (h : Le x y) (kk : TrD P N ops sx plan ob ph St ((i, .p y) :: E) H Q) : TrD P N ops sx plan ob ph St E H Q := by
  unfold TrD at kk ⊢
  intro okA w0 ρ tmps w w1 stab listed r
  exact kk okA w0 _ tmps w w1 stab listed (le_rep r hE h)
/-- A row of the call's own is from here on only read: in a region that draws its order. -/
theorem seal_D {sx : Nat} {plan : List (Nat × Bool)} {ob : Bool} {St : List Nat} {i h : Nat} {e : TypeId} {k : IntKind} {l : List Int} {H0 : Hp} (hE : lk i E = some (.vec h)) (hm : hk h H = some (.vi e k l)) (hp : pH h = false) (hd : delH h H = some H0) (kk : TrD P N ops sx plan ob false St ((i, .p (.si true k l)) :: E) H0 Q) : TrD P N ops sx plan ob false St E H Q := by
  unfold TrD at kk ⊢
  intro okA w0 ρ tmps w w1 stab listed r hpl h1 h2 h3 h4 h5
  obtain ⟨r1, hr⟩ := sealed_vi r hm hp hd
  exact kk okA w0 ρ tmps w w1 stab listed (r1.set_env hE (fun y hy => by simp only [RelT] at hy ⊢; subst hy; exact hr)) hpl h1
    (fun ho h' hs m b hm' hb => h2 ho h' hs m b (delH_spec hd h' m hm').2 hb) (fun ho h' m b hm' hn hb => h3 ho h' m b (delH_spec hd h' m hm').2 hn hb) (fun _ e => by cases e) h5
end
theorem Con.le {P : Program} {f : FuncId} {args : List PV} {r r' : PV} (h : Con P f args r) (hl : Le r r') : Con P f args r' := by
  unfold Con at h ⊢
  intro okA w vs hvs
  refine (h okA w vs hvs).mono fun e w' ⟨y, he, hr, hb⟩ => ⟨y, he, ?_, hb⟩
  exact Le.rel (fun b hb => ⟨hb.1, hb.2.elim .inl (fun h => absurd h.1 (by simp))⟩) hl y hr
end Go.Av
