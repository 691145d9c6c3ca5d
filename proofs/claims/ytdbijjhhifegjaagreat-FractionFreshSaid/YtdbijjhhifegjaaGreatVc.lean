/- Contracts behind a law: no conditions beyond those in each statement. -/
import Derived.Test.YtdbijjhhifegjaaGreatVb
set_option maxHeartbeats 8000000
set_option maxRecDepth 100000
set_option linter.unusedVariables false
set_option linter.unusedSimpArgs false
namespace Go.Av
open Go Go.Proofs Go.RowKit
/-! A call that overwrites limbs that are known to be new: what is told of new limbs behind it is their number. -/
mutual
/-- The same but for what stands in new rows. -/
def wob : PV → PV → Prop
  | .v x, y => y = .v x
  | .si f k l, y => f = true ∧ ∃ l', l'.length = l.length ∧ y = .si true k l'
  | .ss _ _ _, _ => False
  | .ag cs, y => ∃ ds, y = .ag ds ∧ wobs cs ds
  | .tp cs, y => ∃ ds, y = .tp ds ∧ wobs cs ds
def wobs : List PV → List PV → Prop
  | [], ds => ds = []
  | x :: xs, ds => ∃ y ys, ds = y :: ys ∧ wob x y ∧ wobs xs ys
end
mutual
def wobB : PV → Bool
  | .v _ => true
  | .si f _ _ => f
  | .ss _ _ _ => false
  | .ag cs => wobsB cs
  | .tp cs => wobsB cs
def wobsB : List PV → Bool
  | [] => true
  | x :: xs => wobB x && wobsB xs
end
/-- How memory may change. -/
structure Wr (bad : Nat → Prop) (w w' : World) : Prop where
  size : w.heap.size ≤ w'.heap.size
  soft : ∀ k, soft w k → soft w' k
  cell : ∀ k i, k < w.heap.size → w'.cell? ⟨k, i, none⟩ = w.cell? ⟨k, i, none⟩ ∨ (∃ m, w.cell? ⟨k, i, none⟩ = some (.int .u32 m)) ∧ w'.cell? ⟨k, i, none⟩ = some (.int .u32 77)
mutual
theorem wob_rel {bad : Nat → Prop} {w w' : World} (hw : Wr bad w w') {ok ok' : Bool → Nat → Prop} (h1 : ∀ f b, ok f b → ok' f b) (h2 : ∀ f b, ok f b → b < w.heap.size) : ∀ (x : PV) (y : Value), wobB x = true → Rel w ok x y → ∃ x', wob x x' ∧ Rel w' ok' x' y
  | .v x, y, _, h => ⟨.v x, by simp only [wob], by simpa only [Rel] using h⟩
  | .si f k l, y, hb, h => by
    simp only [wobB] at hb
    subst hb
    simp only [Rel] at h
    obtain ⟨A, c, e, hc, hm, hl, hcell⟩ := h
    by_cases h0 : 0 < l.length
    · obtain ⟨b, o, hA, hok, hx⟩ := hcell h0
      have hbs := h2 _ _ hok.1
      have key : ∀ j, ∃ x, j < l.length → w'.cell? ⟨b, o + j, none⟩ = some (.int k x) := fun j => by
        by_cases hj : j < l.length
        · have h3 := hx j l[j] (List.getElem?_eq_getElem hj)
          rcases hw.cell b (o + j) hbs with h4 | ⟨⟨m, h4⟩, h5⟩
          · exact ⟨l[j], fun _ => h4.trans h3⟩
          · rw [h3] at h4
            simp only [Option.some.injEq, Value.int.injEq] at h4
            obtain ⟨rfl, _⟩ := h4
            exact ⟨77, fun _ => h5⟩
        · exact ⟨0, fun h => absurd h hj⟩
      obtain ⟨g, hg⟩ := Classical.axiomOfChoice key
      refine ⟨.si true k ((List.range l.length).map g), by simp only [wob]; exact ⟨trivial, _, by simp, rfl⟩, ?_⟩
      simp only [Rel, List.length_map, List.length_range]
      refine ⟨A, c, e, hc, hm, hl, fun _ => ⟨b, o, hA, ⟨h1 _ _ hok.1, fun _ => hw.soft b (hok.2 trivial)⟩, fun j x hj => ?_⟩⟩
      have hj1 : j < l.length := by have := (List.getElem?_eq_some_iff.1 hj).1; simpa using this
      have hj2 : x = g j := by simpa [hj1] using hj.symm
      rw [hj2]
      exact hg j hj1
    · refine ⟨.si true k [], by simp only [wob]; exact ⟨trivial, [], by simp; omega, rfl⟩, ?_⟩
      have : l.length = 0 := by omega
      simp only [Rel, List.length_nil]
      rw [this] at e hc
      exact ⟨A, c, e, hc, hm, by simp [lim], fun h => absurd h (by omega)⟩
  | .ss f sz es, y, hb, h => by simp [wobB] at hb
  | .ag cs, y, hb, h => by
    simp only [wobB] at hb
    simp only [Rel] at h
    obtain ⟨ys, e, hr⟩ := h
    obtain ⟨ds, hd, hr'⟩ := wobs_rel hw h1 h2 cs ys hb hr
    exact ⟨.ag ds, by simp only [wob]; exact ⟨ds, rfl, hd⟩, by simp only [Rel]; exact ⟨ys, e, hr'⟩⟩
  | .tp cs, y, hb, h => by
    simp only [wobB] at hb
    simp only [Rel] at h
    obtain ⟨ys, e, hr⟩ := h
    obtain ⟨ds, hd, hr'⟩ := wobs_rel hw h1 h2 cs ys hb hr
    exact ⟨.tp ds, by simp only [wob]; exact ⟨ds, rfl, hd⟩, by simp only [Rel]; exact ⟨ys, e, hr'⟩⟩
theorem wobs_rel {bad : Nat → Prop} {w w' : World} (hw : Wr bad w w') {ok ok' : Bool → Nat → Prop} (h1 : ∀ f b, ok f b → ok' f b) (h2 : ∀ f b, ok f b → b < w.heap.size) : ∀ (xs : List PV) (ys : List Value), wobsB xs = true → Rels w ok xs ys → ∃ xs', wobs xs xs' ∧ Rels w' ok' xs' ys
  | [], ys, _, h => ⟨[], by simp only [wobs], by simpa only [Rels] using h⟩
  | x :: xs, ys, hb, h => by
    simp only [wobsB, Bool.and_eq_true] at hb
    simp only [Rels] at h
    obtain ⟨y, zs, e, hx, hxs⟩ := h
    obtain ⟨x', hx', hr⟩ := wob_rel hw h1 h2 x y hb.1 hx
    obtain ⟨xs', hxs', hrs⟩ := wobs_rel hw h1 h2 xs zs hb.2 hxs
    exact ⟨x' :: xs', by simp only [wobs]; exact ⟨_, _, rfl, hx', hxs'⟩, by simp only [Rels]; exact ⟨_, _, e, hr, hrs⟩⟩
end
def wobM : MB → MB → Prop
  | .bx cs, m => ∃ ds, m = .bx ds ∧ wobs cs ds
  | .vs e sz es, m => ∃ ds, m = .vs e sz ds ∧ wobs es ds
  | .vi e k l, m => m = .vi e k l
  | .it s p, m => m = .it s p
def wobMB : MB → Bool
  | .bx cs => wobsB cs
  | .vs _ _ es => wobsB es
  | _ => true
def wobH : Hp → Hp → Prop
  | [], G => G = []
  | (h, m) :: r, G => ∃ m' r', G = (h, m') :: r' ∧ wobM m m' ∧ wobH r r'
def wobHB : Hp → Bool
  | [] => true
  | (_, m) :: r => wobMB m && wobHB r
theorem wobs_len : ∀ {xs ys : List PV}, wobs xs ys → ys.length = xs.length
  | [], ys, h => by simp only [wobs] at h; subst h; rfl
  | x :: xs, ys, h => by
    simp only [wobs] at h
    obtain ⟨y, zs, rfl, _, hz⟩ := h
    simp [wobs_len hz]
theorem wobM_rel {bad : Nat → Prop} {w w' : World} (hw : Wr bad w w') {ok ok' : Bool → Nat → Prop} {B : Nat} (h1 : ∀ f b, ok f b → ok' f b) (h2 : ∀ f b, ok f b → b < w.heap.size) {m : MB} {y : Value} (hb : wobMB m = true) (h3 : ∀ b, blk y = some b → w'.heap[b]? = w.heap[b]?) (h : RelB w ok B m y) : ∃ m', wobM m m' ∧ RelB w' ok' B m' y := by
  cases m with
  | bx cs =>
    simp only [RelB] at h
    obtain ⟨g, t, ys, rfl, hg, hh, hr, ho⟩ := h
    obtain ⟨ds, hd, hr'⟩ := wobs_rel hw h1 h2 cs ys hb hr
    exact ⟨.bx ds, by simp only [wobM]; exact ⟨ds, rfl, hd⟩, by simp only [RelB]; exact ⟨g, t, ys, rfl, hg, by rw [h3 g rfl]; exact hh, hr', ho⟩⟩
  | vs e sz es =>
    simp only [RelB] at h
    obtain ⟨ys, hr, hs, ho, h1', hl⟩ := h
    obtain ⟨ds, hd, hr'⟩ := wobs_rel hw h1 h2 es ys hb hr
    have hlen := wobs_len hd
    exact ⟨.vs e sz ds, by simp only [wobM]; exact ⟨ds, rfl, hd⟩, by simp only [RelB]; exact ⟨ys, hr', hs, by rw [hlen]; exact own_of_block ho h3, h1', by rw [hlen]; exact hl⟩⟩
  | vi e k l => exact ⟨.vi e k l, by simp only [wobM], by simp only [RelB] at h ⊢; exact ⟨own_of_block h.1 h3, h.2⟩⟩
  | it s pos =>
    refine ⟨.it s pos, by simp only [wobM], ?_⟩
    simp only [RelB] at h ⊢
    obtain ⟨g, rfl, hg, hh⟩ := h
    exact ⟨g, rfl, hg, by rw [h3 g rfl]; exact hh⟩
theorem wobH_keys : ∀ {H G : Hp}, wobH H G → ∀ h m, hk h G = some m → ∃ m0, hk h H = some m0 ∧ wobM m0 m
  | [], G, hw, h, m, hm => by simp only [wobH] at hw; subst hw; simp [hk] at hm
  | (j, m0) :: r, G, hw, h, m, hm => by
    simp only [wobH] at hw
    obtain ⟨m', r', rfl, h1, h2⟩ := hw
    simp only [hk] at hm ⊢
    cases hij : Nat.beq h j with
    | true => rw [hij] at hm; simp only [cond_true, Option.some.injEq] at hm ⊢; exact ⟨m0, rfl, by rw [← hm]; exact h1⟩
    | false => rw [hij] at hm; simp only [cond_false] at hm ⊢; exact wobH_keys h2 h m hm
mutual
theorem wob_refl : ∀ (x : PV), wobB x = true → wob x x
  | .v x, _ => by simp only [wob]
  | .si f k l, h => by simp only [wobB] at h; subst h; simp only [wob]; exact ⟨trivial, l, rfl, rfl⟩
  | .ss _ _ _, h => by simp [wobB] at h
  | .ag cs, h => by simp only [wobB] at h; simp only [wob]; exact ⟨cs, rfl, wobs_refl cs h⟩
  | .tp cs, h => by simp only [wobB] at h; simp only [wob]; exact ⟨cs, rfl, wobs_refl cs h⟩
theorem wobs_refl : ∀ (xs : List PV), wobsB xs = true → wobs xs xs
  | [], _ => by simp only [wobs]
  | x :: xs, h => by
    simp only [wobsB, Bool.and_eq_true] at h
    simp only [wobs]
    exact ⟨x, xs, rfl, wob_refl x h.1, wobs_refl xs h.2⟩
end
theorem wobM_refl (m : MB) (h : wobMB m = true) : wobM m m := by
  cases m with
  | bx cs => exact ⟨cs, rfl, wobs_refl cs h⟩
  | vs e sz es => exact ⟨es, rfl, wobs_refl es h⟩
  | vi e k l => simp only [wobM]
  | it s p => simp only [wobM]
/-- The handles' contents behind the change. -/
theorem wobH_rel {bad : Nat → Prop} {w w' : World} (hw : Wr bad w w') {ok ok' : Bool → Nat → Prop} {ρ : Nat → Value} (h1 : ∀ f b, ok f b → ok' f b) (h2 : ∀ f b, ok f b → b < w.heap.size) : ∀ (K : Hp) (S : Nat → Prop), (∀ h m, hk h K = some m → S h → RelB w ok 0 m (ρ h) ∧ ∀ b, blk (ρ h) = some b → w'.heap[b]? = w.heap[b]?) → wobHB K = true → ∃ G, wobH K G ∧ ∀ h m, hk h G = some m → S h → RelB w' ok' 0 m (ρ h)
  | [], S, _, _ => ⟨[], by simp only [wobH], fun h m hm => by simp [hk] at hm⟩
  | (j, m0) :: K, S, hK, hb => by
    simp only [wobHB, Bool.and_eq_true] at hb
    obtain ⟨G, hG, hr⟩ := wobH_rel hw h1 h2 K (fun h => S h ∧ h ≠ j) (fun h m hm hs => hK h m (by
      simp only [hk]
      cases hij : Nat.beq h j with
      | true => exact absurd (Nat.eq_of_beq_eq_true hij) hs.2
      | false => simpa using hm) hs.1) hb.2
    by_cases hS : S j
    · obtain ⟨hj1, hj2⟩ := hK j m0 (by simp [hk]) hS
      obtain ⟨m', hm1, hm2⟩ := wobM_rel hw h1 h2 hb.1 hj2 hj1
      refine ⟨(j, m') :: G, by simp only [wobH]; exact ⟨m', G, rfl, hm1, hG⟩, fun h m hm hs => ?_⟩
      rcases hk_cons hm with ⟨rfl, rfl⟩ | ⟨hne, hm'⟩
      · exact hm2
      · exact hr h m hm' ⟨hs, hne⟩
    · refine ⟨(j, m0) :: G, by simp only [wobH]; exact ⟨m0, G, rfl, wobM_refl m0 hb.1, hG⟩, fun h m hm hs => ?_⟩
      rcases hk_cons hm with ⟨rfl, rfl⟩ | ⟨hne, hm'⟩
      · exact absurd hs hS
      · exact hr h m hm' ⟨hs, hne⟩
/-- What stays told of a temporary. -/
def keepT : TV → TV
  | .p x => bif stabE x then .p x else .junk
  | .rc _ => .junk
  | x => x
def keepE (E : Env) : Env := E.map fun q => (q.1, keepT q.2)
theorem lk_keep {i : Nat} : ∀ {E : Env} {x : TV}, lk i (keepE E) = some x → ∃ y, lk i E = some y ∧ x = keepT y
  | [], x, h => by simp [keepE, lk] at h
  | (j, y) :: E, x, h => by
    simp only [keepE, List.map_cons, lk] at h ⊢
    cases hij : Nat.beq i j with
    | true => rw [hij] at h; simp only [cond_true, Option.some.injEq] at h ⊢; exact ⟨y, rfl, h.symm⟩
    | false => rw [hij] at h; simp only [cond_false] at h ⊢; exact lk_keep h
section
variable {P : Program} {N : Nat} {E : Env} {H : Hp} {Q : Exit → Env → Hp → Prop} {ops : Array Oper} {rest : List Oper}
theorem Rep.wrote {okA : Acc} {w0 : World} {ρ : Nat → Value} {tmps : Array Value} {w w' : World} {B : Option Nat} (r : Rep okA w0 N ρ E H tmps w) (hw : Wrote B w w') (hB : ∀ b, B = some b → okF okA w0.heap.size ρ H w.heap.size true b) (hb : wobHB H = true) : ∃ G, wobH H G ∧ Rep okA w0 N ρ (keepE E) G tmps w' := by
  have hown : ∀ h m b, hk h H = some m → blk (ρ h) = some b → w'.heap[b]? = w.heap[b]? := fun h m b hm hbk =>
    hw.same b ((r.heap h m hm).bounds hbk).2 (fun e => (hB b e).2.1 h m hm hbk)
  obtain ⟨G, hG, hr⟩ := wobH_rel (bad := fun _ => True) (w := w) (w' := w') ⟨hw.size, hw.soft, hw.cell⟩ (ok := okF okA w0.heap.size ρ H w.heap.size) (ok' := okF okA w0.heap.size ρ H w'.heap.size) (ρ := ρ) (fun f b hok => hok.grow hw.size) (fun f b hok => hok.1) H (fun _ => True) (fun h m hm _ => ⟨r.heap h m hm, fun b hbk => hown h m b hm hbk⟩) hb
  have hkG : ∀ h m, hk h G = some m → ∃ m0, hk h H = some m0 := fun h m hm => (wobH_keys hG h m hm).elim fun m0 h => ⟨m0, h.1⟩
  have hok : ∀ f b, okF okA w0.heap.size ρ H w'.heap.size f b → okF okA w0.heap.size ρ G w'.heap.size f b := fun f b hb => ⟨hb.1, fun h m hm => (hkG h m hm).elim fun m0 hm0 => hb.2.1 h m0 hm0, hb.2.2⟩
  refine ⟨G, hG, ⟨hw.os.trans r.below.os, hw.tape.trans r.below.tape, hw.output.trans r.below.output, Nat.le_trans r.below.size hw.size, fun k hk hwr => ?_⟩, fun h m b hm hbk => (hkG h m hm).elim fun m0 hm0 => r.own h m0 b hm0 hbk, fun h m hm => (hr h m hm trivial).mono hok (fun _ _ _ => rfl) (fun _ _ => rfl), fun h h' m m' b e1 e2 hne hbk => ?_, fun i x hx => ?_, r.size, r.lent, r.small⟩
  · rw [← r.below.block k hk hwr]
    refine hw.same k (Nat.lt_of_lt_of_le hk r.below.size) (fun e => ?_)
    have := (hB k e).2.2
    rcases this with h | h
    · omega
    · cases h.1
  · obtain ⟨a, ha⟩ := hkG _ _ e1
    obtain ⟨a', ha'⟩ := hkG _ _ e2
    exact r.disj h h' a a' b ha ha' hne hbk
  · obtain ⟨y, hy, rfl⟩ := lk_keep hx
    obtain ⟨u, hu, hrel⟩ := r.env i y hy
    refine ⟨u, hu, ?_⟩
    cases y with
    | p x =>
      simp only [keepT]
      cases hst : stabE x with
      | true =>
        simp only [cond_true, RelT] at hrel ⊢
        exact stabE_rel x u hst hrel
      | false => simp only [cond_false, RelT]
    | ptr h o => simpa only [keepT, RelT] using hrel
    | vec h => simpa only [keepT, RelT] using hrel
    | vw h o n => simpa only [keepT, RelT] using hrel
    | vb h n => simpa only [keepT, RelT] using hrel
    | vp h o => simpa only [keepT, RelT] using hrel
    | rc x => simp only [keepT, RelT]
    | junk => simp only [keepT, RelT]
    | ro x =>
      simp only [keepT, RelT] at hrel ⊢
      obtain ⟨b, o, z, e, hod, hz, hc⟩ := hrel
      have hold : ∀ b, (okF okA w0.heap.size ρ H w.heap.size false b ∧ ¬ okF okA w0.heap.size ρ H w.heap.size true b) → (okF okA w0.heap.size ρ G w'.heap.size false b ∧ ¬ okF okA w0.heap.size ρ G w'.heap.size true b) ∧ w'.heap[b]? = w.heap[b]? := fun b hb => by
        refine ⟨⟨hok _ _ (hb.1.grow hw.size), fun hn => hb.2 (hb.1.old hn)⟩, hw.same b hb.1.1 (fun e => hb.2 (hB b e))⟩
      exact ⟨b, o, z, e, (hold b hod).1, Rel.mono (fun _ b hb => (hold b hb).1) (fun _ b hb => (hold b hb).2) x z hz, fun j u hj => (World.cell?_of_block (w := w) (a := ⟨b, o + j, none⟩) (hold b hod).2).trans (hc j u hj)⟩
/-- A call that overwrites new limbs. -/
theorem changed_ {o : Operand} {ts : Array TypeId} {ty : TypeId} {pos : String} {af : Array Edge} {d : Nat} {p : Bool} {l : List Int} (hx : evT E o = some (.p (.ag [.v (.bool p), .si true .u32 l]))) (hb : wobHB H = true) (hd : Nat.blt d N = true)
    (kk : ∀ G, wobH H G → TrL Tryz.prog N ops rest ((d, .junk) :: keepE E) G Q) :
    TrL Tryz.prog N ops (⟨some d, .call { callee := .value (.func 17), args := #[o], argTypes := ts }, ty, pos, af, none⟩ :: rest) E H Q := by
  unfold TrL at kk ⊢
  intro okA w0 ρ tmps w r
  refine wpList_plain rfl fun K hK => ?_
  have h0 := ev_rel r hx
  simp only [RelT, Rel, Rels] at h0
  obtain ⟨ys, e0, y1, z1, rfl, rfl, y2, z2, rfl, ⟨A, c, rfl, hc, hm, hl, hcell⟩, rfl⟩ := h0
  have hraw := changed_raw p A l.length c (if l.length = 0 then none else A.map (·.block)) w hl (fun h => by rw [if_neg (by omega)]) (fun h => by
    obtain ⟨b, o, hA, hok, hx⟩ := hcell h
    exact ⟨b, o, hA, hok.2 trivial, fun j hj => ⟨l[j], hx j _ (List.getElem?_eq_getElem hj)⟩⟩)
  have hrun : (execOp (Act.eval ⟨tmps, []⟩) ⟨some d, .call { callee := .value (.func 17), args := #[o], argTypes := ts }, ty, pos, af, none⟩).run Tryz.prog w = .ok (.enter 17 #[.agg #[.bool p, .slice A l.length c]]) w := by
    have h1 : Act.eval ⟨tmps, []⟩ (.func 17) = .func (.func 17) #[] #[] := rfl
    have hn' : ¬ Tryz.f17.name = "runtime.NumGoroutine" := by decide
    have hb' : ¬ Tryz.f17.body = none := by intro h; cases h
    simp [execOp, resolve, Deferred.ofValue, h1, invoke, callFunc, Tryz.func17, hn', hb', e0]
  simp only [Oper.wp, hrun, Oper.upon]
  refine hraw.mono fun en w' ⟨⟨v, he⟩, hw⟩ => ?_
  subst he
  obtain ⟨G, hG, r'⟩ := r.wrote hw (fun b hb => by
    by_cases h : l.length = 0
    · rw [if_pos h] at hb; cases hb
    · rw [if_neg h] at hb
      obtain ⟨b', o', hA, hok, _⟩ := hcell (by omega)
      rw [hA] at hb
      simp only [Option.map_some, Option.some.injEq] at hb
      rw [← hb]
      exact hok.1) hb
  exact hK _ _ (kk G hG okA w0 ρ _ w' (r'.junk (Nat.le_of_ble_eq_true hd) v))
end
end Go.Av
