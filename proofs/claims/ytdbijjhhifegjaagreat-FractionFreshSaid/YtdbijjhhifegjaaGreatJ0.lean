/- Contracts of functions that the laws on fractions reach, and the plain arithmetic behind them: no conditions beyond those in each statement. -/
import Derived.Below
import Derived.OrdersHeld
import Derived.Laws.AppendOwn
import Derived.Laws.MakeOwn
import Derived.Laws.OwnMore
import Derived.Laws.Rows
import Derived.Laws.Slices
import Derived.Laws.Unary
import Derived.Laws.Small
import Derived.Laws.Cover3
import Derived.Maps.AppendAt
import Derived.WalkKit
set_option linter.unusedVariables false
set_option linter.unusedSimpArgs false
namespace Go.Av
open Go Go.RowKit

/-- Abstract values that hold no address of the call's own: an exact value; a slice of whole numbers that is only read; a slice of other elements that is only read; a struct or array; a tuple. The Bool: is the memory known to be new? -/
inductive PV where
  | v (x : Value)
  | si (f : Bool) (k : IntKind) (l : List Int)
  | ss (f : Bool) (sz : Nat) (es : List PV)
  | ag (cs : List PV)
  | tp (fs : List PV)

def lim : Nat := 281474976710656

def flat (ys : List Value) : List Value := ys.flatMap fun y => y.cells.toList

/-- No string shares the block's bytes. -/
def soft (w : World) (b : Nat) : Prop := ∃ c t, w.heap[b]? = some (.cells c t (0, 0))
theorem soft.mono {w w' : World} {b : Nat} (h : soft w b) (e : w'.heap[b]? = w.heap[b]?) : soft w' b := h.elim fun c h => h.elim fun t h => ⟨c, t, e.trans h⟩

mutual
def Rel (w : World) (ok : Bool → Nat → Prop) : PV → Value → Prop
  | .v x, y => y = x
  | .si f k l, y => ∃ A c, y = .slice A l.length c ∧ l.length ≤ c ∧ c ≤ maxLen ∧ l.length < lim ∧ (0 < l.length → ∃ b o, A = some ⟨b, o, none⟩ ∧ (ok f b ∧ (f = true → soft w b)) ∧ ∀ j x, l[j]? = some x → w.cell? ⟨b, o + j, none⟩ = some (.int k x))
  | .ss f sz es, y => ∃ A c ys, y = .slice A es.length c ∧ es.length ≤ c ∧ c ≤ maxLen ∧ es.length < lim ∧ Rels w ok es ys ∧ (∀ z ∈ ys, z.cells.size = sz) ∧ (0 < es.length → ∃ b o, A = some ⟨b, o, none⟩ ∧ (ok f b ∧ (f = true → soft w b)) ∧ ∀ j x, (flat ys)[j]? = some x → w.cell? ⟨b, o + j, none⟩ = some x)
  | .ag cs, y => ∃ ys, y = .agg ys.toArray ∧ Rels w ok cs ys
  | .tp fs, y => ∃ ys, y = .tuple ys.toArray ∧ Rels w ok fs ys
def Rels (w : World) (ok : Bool → Nat → Prop) : List PV → List Value → Prop
  | [], ys => ys = []
  | x :: xs, ys => ∃ y zs, ys = y :: zs ∧ Rel w ok x y ∧ Rels w ok xs zs
end

-- What is allowed grows, and the allowed blocks read as they did.
mutual
theorem Rel.mono {w w' : World} {ok ok' : Bool → Nat → Prop} (h1 : ∀ f b, ok f b → ok' f b) (h2 : ∀ f b, ok f b → w'.heap[b]? = w.heap[b]?) : ∀ (x : PV) (y : Value), Rel w ok x y → Rel w' ok' x y
  | .v x, y, h => by simpa only [Rel] using h
  | .si f k l, y, h => by
    simp only [Rel] at h ⊢
    obtain ⟨A, c, e, hc, hm, hl, hcell⟩ := h
    refine ⟨A, c, e, hc, hm, hl, fun hp => ?_⟩
    obtain ⟨b, o, hA, hok, hx⟩ := hcell hp
    exact ⟨b, o, hA, ⟨h1 _ _ hok.1, fun hf => (hok.2 hf).mono (h2 _ _ hok.1)⟩, fun j x hj => (World.cell?_of_block (w := w) (a := ⟨b, o + j, none⟩) (h2 _ _ hok.1)).trans (hx j x hj)⟩
  | .ss f sz es, y, h => by
    simp only [Rel] at h ⊢
    obtain ⟨A, c, ys, e, hc, hm, hl, hr, hs, hcell⟩ := h
    refine ⟨A, c, ys, e, hc, hm, hl, Rels.mono h1 h2 es ys hr, hs, fun hp => ?_⟩
    obtain ⟨b, o, hA, hok, hx⟩ := hcell hp
    exact ⟨b, o, hA, ⟨h1 _ _ hok.1, fun hf => (hok.2 hf).mono (h2 _ _ hok.1)⟩, fun j x hj => (World.cell?_of_block (w := w) (a := ⟨b, o + j, none⟩) (h2 _ _ hok.1)).trans (hx j x hj)⟩
  | .ag cs, y, h => by
    simp only [Rel] at h ⊢
    obtain ⟨ys, e, hr⟩ := h
    exact ⟨ys, e, Rels.mono h1 h2 cs ys hr⟩
  | .tp fs, y, h => by
    simp only [Rel] at h ⊢
    obtain ⟨ys, e, hr⟩ := h
    exact ⟨ys, e, Rels.mono h1 h2 fs ys hr⟩
theorem Rels.mono {w w' : World} {ok ok' : Bool → Nat → Prop} (h1 : ∀ f b, ok f b → ok' f b) (h2 : ∀ f b, ok f b → w'.heap[b]? = w.heap[b]?) : ∀ (xs : List PV) (ys : List Value), Rels w ok xs ys → Rels w' ok' xs ys
  | [], ys, h => by simpa only [Rels] using h
  | x :: xs, ys, h => by
    simp only [Rels] at h ⊢
    obtain ⟨y, zs, e, hx, hxs⟩ := h
    exact ⟨y, zs, e, Rel.mono h1 h2 x y hx, Rels.mono h1 h2 xs zs hxs⟩
end

-- x says at least what y says.
mutual
inductive Le : PV → PV → Prop
  | refl (x : PV) : Le x x
  | nil (f : Bool) (k : IntKind) : Le (.v (.slice none 0 0)) (.si f k [])
  | nils (f : Bool) (sz : Nat) : Le (.v (.slice none 0 0)) (.ss f sz [])
  | tag (k : IntKind) (l : List Int) : Le (.si true k l) (.si false k l)
  | tags (sz : Nat) (l : List PV) : Le (.ss true sz l) (.ss false sz l)
  | ag {xs ys : List PV} (h : Les xs ys) : Le (.ag xs) (.ag ys)
  | tp {xs ys : List PV} (h : Les xs ys) : Le (.tp xs) (.tp ys)
inductive Les : List PV → List PV → Prop
  | nil : Les [] []
  | cons {x y : PV} {xs ys : List PV} (h : Le x y) (hs : Les xs ys) : Les (x :: xs) (y :: ys)
end

section
variable {w : World} {ok : Bool → Nat → Prop}
mutual
theorem Le.rel (hok : ∀ b, ok true b → ok false b) : ∀ {x y : PV}, Le x y → ∀ u, Rel w ok x u → Rel w ok y u
  | _, _, .refl _, u, h => h
  | _, _, .nil f k, u, h => by
    simp only [Rel] at h ⊢
    exact ⟨none, 0, by rw [h]; rfl, by simp, by simp [maxLen], by simp [lim], by simp⟩
  | _, _, .nils f sz, u, h => by
    simp only [Rel] at h ⊢
    exact ⟨none, 0, [], by rw [h]; rfl, by simp, by simp [maxLen], by simp [lim], by simp only [Rels], by simp, by simp⟩
  | _, _, .tag k l, u, h => by
    simp only [Rel] at h ⊢
    obtain ⟨A, c, e, hc, hm, hl, hcell⟩ := h
    refine ⟨A, c, e, hc, hm, hl, fun hp => ?_⟩
    obtain ⟨b, o, hA, hb, hx⟩ := hcell hp
    exact ⟨b, o, hA, ⟨hok _ hb.1, fun h => by cases h⟩, hx⟩
  | _, _, .tags sz l, u, h => by
    simp only [Rel] at h ⊢
    obtain ⟨A, c, ys, e, hc, hm, hl, hr, hs, hcell⟩ := h
    refine ⟨A, c, ys, e, hc, hm, hl, hr, hs, fun hp => ?_⟩
    obtain ⟨b, o, hA, hb, hx⟩ := hcell hp
    exact ⟨b, o, hA, ⟨hok _ hb.1, fun h => by cases h⟩, hx⟩
  | _, _, .ag h, u, hr => by
    simp only [Rel] at hr ⊢
    obtain ⟨ys, e, hs⟩ := hr
    exact ⟨ys, e, Les.rel hok h ys hs⟩
  | _, _, .tp h, u, hr => by
    simp only [Rel] at hr ⊢
    obtain ⟨ys, e, hs⟩ := hr
    exact ⟨ys, e, Les.rel hok h ys hs⟩
theorem Les.rel (hok : ∀ b, ok true b → ok false b) : ∀ {xs ys : List PV}, Les xs ys → ∀ us, Rels w ok xs us → Rels w ok ys us
  | _, _, .nil, us, h => h
  | _, _, .cons h hs, us, hr => by
    simp only [Rels] at hr ⊢
    obtain ⟨y, zs, e, hx, hxs⟩ := hr
    exact ⟨y, zs, e, Le.rel hok h y hx, Les.rel hok hs zs hxs⟩
end
end

/-- What a temporary holds: an abstract value; a pointer into a box (handle, cell); a row of the call's own; a part of one; an array in a box as a slice; a pointer to one of its cells; a pointer to cells that are only read; nothing known. -/
inductive TV where
  | p (x : PV)
  | ptr (h off : Nat)
  | vec (h : Nat)
  | vw (h off n : Nat)
  | vb (h n : Nat)
  | vp (h off : Nat)
  | rc (x : PV)
  | ro (x : PV)
  | junk

/-- A block of the call's own: a box (a variable); a row of whole numbers; a row of other elements; a walk over a string's characters. -/
inductive MB where
  | bx (cs : List PV)
  | vi (e : TypeId) (k : IntKind) (l : List Int)
  | vs (e : TypeId) (sz : Nat) (es : List PV)
  | it (s : ByteArray) (pos : Nat)

abbrev Env := List (Nat × TV)
abbrev Hp := List (Nat × MB)

def lk (i : Nat) : Env → Option TV
  | [] => none
  | (j, x) :: r => bif Nat.beq i j then some x else lk i r
def hk (i : Nat) : Hp → Option MB
  | [] => none
  | (j, x) :: r => bif Nat.beq i j then some x else hk i r

/-- The block that a pointer or a slice lies in. -/
def blk : Value → Option Nat
  | .pointer (some a) => some a.block
  | .slice (some a) _ _ => some a.block
  | _ => none

def nums (k : IntKind) (l : List Int) : List Value := l.map fun x => .int k x

/-- What a call may read, and what lent rows it may write. -/
structure Acc where
  rd : Nat → Prop
  wr : Nat → Prop
  row : Value

/-- Which blocks an abstract value may lead to: such as stand, are no handle's, and are new, or (where the value isn't known to be new) allowed from outside. -/
def okF (okA : Acc) (B : Nat) (ρ : Nat → Value) (H : Hp) (sz : Nat) (f : Bool) (b : Nat) : Prop :=
  b < sz ∧ (∀ h m, hk h H = some m → blk (ρ h) ≠ some b) ∧ (B ≤ b ∨ (f = false ∧ okA.rd b))

def RelT (w : World) (ok : Bool → Nat → Prop) (ρ : Nat → Value) : TV → Value → Prop
  | .p x, y => Rel w ok x y
  | .ptr h off, y => ∃ g, ρ h = .pointer (some ⟨g, 0, none⟩) ∧ y = .pointer (some ⟨g, off, none⟩)
  | .vec h, y => y = ρ h
  | .vw h off n, y => ∃ g m c, ρ h = .slice (some ⟨g, 0, none⟩) m c ∧ off + n ≤ m ∧ y = .slice (some ⟨g, off, none⟩) n (c - off)
  | .vb h n, y => ∃ g, ρ h = .pointer (some ⟨g, 0, none⟩) ∧ y = .slice (some ⟨g, 0, none⟩) n n
  | .vp h off, y => ∃ g m c, ρ h = .slice (some ⟨g, 0, none⟩) m c ∧ y = .pointer (some ⟨g, off, none⟩)
  | .rc x, y => ∃ b o z, y = .pointer (some ⟨b, o, none⟩) ∧ ok false b ∧ Rel w ok x z ∧ ∀ j u, z.cells.toList[j]? = some u → w.cell? ⟨b, o + j, none⟩ = some u
  | .ro x, y => ∃ b o z, y = .pointer (some ⟨b, o, none⟩) ∧ (ok false b ∧ ¬ ok true b) ∧ Rel w (fun _ b => ok false b ∧ ¬ ok true b) x z ∧ ∀ j u, z.cells.toList[j]? = some u → w.cell? ⟨b, o + j, none⟩ = some u
  | .junk, _ => True

def RelB (w : World) (ok : Bool → Nat → Prop) (B : Nat) : MB → Value → Prop
  | .bx cs, y => ∃ g t ys, y = .pointer (some ⟨g, 0, none⟩) ∧ B ≤ g ∧ w.heap[g]? = some (.cells ys.toArray t (0, 0)) ∧ Rels w ok cs ys ∧ ∀ u ∈ ys, u.oneCell' = true
  | .vi e k l, y => w.ownsRow B e 1 y l.length (nums k l) ∧ l.length < lim
  | .vs e sz es, y => ∃ ys, Rels w ok es ys ∧ (∀ z ∈ ys, z.cells.size = sz) ∧ w.ownsRow B e sz y es.length (flat ys) ∧ (∀ u ∈ flat ys, u.oneCell' = true) ∧ es.length < lim
  | .it s pos, y => ∃ g, y = .pointer (some ⟨g, 0, none⟩) ∧ B ≤ g ∧ w.heap[g]? = some (.stringIter s pos)

theorem okF.old {okA : Acc} {B : Nat} {ρ ρ' : Nat → Value} {H H' : Hp} {sz sz' b : Nat} (h : okF okA B ρ H sz false b) (h' : okF okA B ρ' H' sz' true b) : okF okA B ρ H sz true b := ⟨h.1, h.2.1, h'.2.2.elim .inl (fun e => by cases e.1)⟩

def TV.says (h : Nat) : TV → Bool
  | .ptr h' _ | .vec h' | .vw h' _ _ | .vb h' _ | .vp h' _ => Nat.beq h h'
  | _ => false

/-- Handles from 1000000 on are rows that a caller has lent. -/
def pH (h : Nat) : Bool := Nat.ble 1000000 h
/-- The world goes on; of the first n blocks only lent ones change. -/
structure Frm (okA : Acc) (n : Nat) (w w' : World) : Prop where
  os : w'.os = w.os
  tape : w'.tape = w.tape
  output : w'.output = w.output
  size : w.heap.size ≤ w'.heap.size
  block : ∀ k, k < n → ¬ okA.wr k → w'.heap[k]? = w.heap[k]?
theorem Frm.refl (okA : Acc) (n : Nat) (w : World) : Frm okA n w w := ⟨rfl, rfl, rfl, Nat.le_refl _, fun _ _ _ => rfl⟩
theorem Frm.trans {okA : Acc} {n : Nat} {a b c : World} (h : Frm okA n a b) (k : Frm okA n b c) : Frm okA n a c :=
  ⟨k.os.trans h.os, k.tape.trans h.tape, k.output.trans h.output, Nat.le_trans h.size k.size, fun i hi hw => (k.block i hi hw).trans (h.block i hi hw)⟩
theorem Frm.of {okA : Acc} {n : Nat} {w w' : World} (h : Below n w w') : Frm okA n w w' := ⟨h.os, h.tape, h.output, h.size, fun k hk _ => h.block k hk⟩

structure Rep (okA : Acc) (w0 : World) (N : Nat) (ρ : Nat → Value) (E : Env) (H : Hp) (tmps : Array Value) (w : World) : Prop where
  below : Frm okA w0.heap.size w0 w
  own : ∀ h m b, hk h H = some m → blk (ρ h) = some b → w0.heap.size ≤ b ∨ (pH h = true ∧ okA.wr b)
  heap : ∀ h m, hk h H = some m → RelB w (okF okA w0.heap.size ρ H w.heap.size) 0 m (ρ h)
  disj : ∀ h h' m m' b, hk h H = some m → hk h' H = some m' → h ≠ h' → blk (ρ h) = some b → blk (ρ h') ≠ some b
  env : ∀ i x, lk i E = some x → ∃ y, tmps[i]? = some y ∧ RelT w (okF okA w0.heap.size ρ H w.heap.size) ρ x y
  size : N ≤ tmps.size
  lent : ρ 1000000 = okA.row
  small : N ≤ 1000000

theorem own_bounds {w : World} {B : Nat} {e : TypeId} {size : Nat} {v : Value} {n : Nat} {xs : List Value} (h : w.ownsRow B e size v n xs) {b : Nat} (hb : blk v = some b) : B ≤ b ∧ b < w.heap.size := by
  rcases h.2 with ⟨rfl, _⟩ | ⟨g, cap, cur, rfl, hg, hh, _⟩
  · simp [blk] at hb
  · simp only [blk, Option.some.injEq] at hb
    subst hb
    exact ⟨hg, (Array.getElem?_eq_some_iff.1 hh).1⟩

theorem RelB.bounds {w : World} {ok : Bool → Nat → Prop} {B : Nat} {m : MB} {y : Value} (h : RelB w ok B m y) {b : Nat} (hb : blk y = some b) : B ≤ b ∧ b < w.heap.size := by
  cases m with
  | bx cs =>
    simp only [RelB] at h
    obtain ⟨g, t, ys, rfl, hg, hh, _⟩ := h
    simp only [blk, Option.some.injEq] at hb
    subst hb
    exact ⟨hg, (Array.getElem?_eq_some_iff.1 hh).1⟩
  | vi e k l =>
    simp only [RelB] at h
    exact own_bounds h.1 hb
  | vs e sz es =>
    simp only [RelB] at h
    obtain ⟨ys, _, _, ho, _⟩ := h
    exact own_bounds ho hb
  | it s pos =>
    simp only [RelB] at h
    obtain ⟨g, rfl, hg, hh⟩ := h
    simp only [blk, Option.some.injEq] at hb
    subst hb
    exact ⟨hg, (Array.getElem?_eq_some_iff.1 hh).1⟩

theorem RelT.mono {w w' : World} {ok ok' : Bool → Nat → Prop} {ρ ρ' : Nat → Value} (h1 : ∀ f b, ok f b → ok' f b) (h2 : ∀ f b, ok f b → w'.heap[b]? = w.heap[b]?) {x : TV} (h3 : ∀ h, x.says h = true → ρ' h = ρ h) (h4 : ∀ b, ok false b → ok' true b → ok true b) {y : Value} (h : RelT w ok ρ x y) : RelT w' ok' ρ' x y := by
  cases x with
  | p x => simp only [RelT] at h ⊢; exact Rel.mono h1 h2 x y h
  | ptr k off => simp only [RelT] at h ⊢; rw [h3 k (by simp [TV.says])]; exact h
  | vec k => simp only [RelT] at h ⊢; rw [h3 k (by simp [TV.says])]; exact h
  | vw k off n => simp only [RelT] at h ⊢; rw [h3 k (by simp [TV.says])]; exact h
  | vb k n => simp only [RelT] at h ⊢; rw [h3 k (by simp [TV.says])]; exact h
  | vp k off => simp only [RelT] at h ⊢; rw [h3 k (by simp [TV.says])]; exact h
  | rc x =>
    simp only [RelT] at h ⊢
    obtain ⟨b, o, z, e, hok, hr, hc⟩ := h
    exact ⟨b, o, z, e, h1 _ _ hok, Rel.mono h1 h2 x z hr, fun j u hj => (World.cell?_of_block (w := w) (a := ⟨b, o + j, none⟩) (h2 _ _ hok)).trans (hc j u hj)⟩
  | ro x =>
    simp only [RelT] at h ⊢
    obtain ⟨b, o, z, e, hok, hr, hc⟩ := h
    exact ⟨b, o, z, e, ⟨h1 _ _ hok.1, fun hn => hok.2 (h4 b hok.1 hn)⟩, Rel.mono (fun _ b hb => ⟨h1 _ _ hb.1, fun hn => hb.2 (h4 b hb.1 hn)⟩) (fun _ b hb => h2 _ _ hb.1) x z hr, fun j u hj => (World.cell?_of_block (w := w) (a := ⟨b, o + j, none⟩) (h2 _ _ hok.1)).trans (hc j u hj)⟩
  | junk => simp only [RelT]

theorem own_of_block {w w' : World} {B : Nat} {e : TypeId} {size : Nat} {v : Value} {n : Nat} {xs : List Value} (h : w.ownsRow B e size v n xs) (h2 : ∀ b, blk v = some b → w'.heap[b]? = w.heap[b]?) : w'.ownsRow B e size v n xs := by
  refine ⟨h.1, ?_⟩
  rcases h.2 with hn | ⟨g, cap, cur, rfl, hb, hgg, rest⟩
  · exact .inl hn
  · exact .inr ⟨g, cap, cur, rfl, hb, by rw [h2 g rfl]; exact hgg, rest⟩

theorem RelB.mono {w w' : World} {ok ok' : Bool → Nat → Prop} {B : Nat} (h1 : ∀ f b, ok f b → ok' f b) (h2 : ∀ f b, ok f b → w'.heap[b]? = w.heap[b]?) {m : MB} {y : Value} (h3 : ∀ b, blk y = some b → w'.heap[b]? = w.heap[b]?) (h : RelB w ok B m y) : RelB w' ok' B m y := by
  cases m with
  | bx cs =>
    simp only [RelB] at h ⊢
    obtain ⟨g, t, ys, rfl, hg, hh, hr, ho⟩ := h
    exact ⟨g, t, ys, rfl, hg, by rw [h3 g rfl]; exact hh, Rels.mono h1 h2 cs ys hr, ho⟩
  | vi e k l =>
    simp only [RelB] at h ⊢
    exact ⟨own_of_block h.1 h3, h.2⟩
  | vs e sz es =>
    simp only [RelB] at h ⊢
    obtain ⟨ys, hr, hs, ho, h1', hl⟩ := h
    exact ⟨ys, Rels.mono h1 h2 es ys hr, hs, own_of_block ho h3, h1', hl⟩
  | it s pos =>
    simp only [RelB] at h ⊢
    obtain ⟨g, rfl, hg, hh⟩ := h
    exact ⟨g, rfl, hg, by rw [h3 g rfl]; exact hh⟩

section
variable {okA : Acc} {w0 : World} {N : Nat} {ρ : Nat → Value} {E : Env} {H : Hp} {tmps : Array Value} {w w' : World}

theorem okF.lt {f : Bool} {b sz : Nat} (h : okF okA w0.heap.size ρ H sz f b) : b < sz := h.1
theorem okF.grow {f : Bool} {b sz sz' : Nat} (hs : sz ≤ sz') (h : okF okA w0.heap.size ρ H sz f b) : okF okA w0.heap.size ρ H sz' f b := ⟨Nat.lt_of_lt_of_le h.1 hs, h.2⟩
theorem okF.tag {B b sz : Nat} (h : okF okA B ρ H sz true b) : okF okA B ρ H sz false b := ⟨h.1, h.2.1, h.2.2.elim .inl (fun h => absurd h.1 (by simp))⟩

/-- The world goes on: nothing that stands has changed. -/
theorem Rep.world (r : Rep okA w0 N ρ E H tmps w) (hb : Below w.heap.size w w') : Rep okA w0 N ρ E H tmps w' := by
  have hk2 : ∀ b, b < w.heap.size → w'.heap[b]? = w.heap[b]? := hb.block
  refine ⟨r.below.trans ⟨hb.os, hb.tape, hb.output, hb.size, fun k hk _ => hb.block k (Nat.lt_of_lt_of_le hk r.below.size)⟩, r.own, fun h m hm => ?_, r.disj, fun i x hx => ?_, r.size, r.lent, r.small⟩
  · have h0 := r.heap h m hm
    exact h0.mono (fun f b hok => hok.grow hb.size) (fun f b hok => hk2 b hok.1) (fun b hb' => hk2 b (h0.bounds hb').2)
  · obtain ⟨y, hy, hr⟩ := r.env i x hx
    exact ⟨y, hy, hr.mono (fun f b hok => hok.grow hb.size) (fun f b hok => hk2 b hok.1) (fun _ _ => rfl) (fun _ h h' => h.old h')⟩

/-- A temporary is written. -/
theorem Rep.put (r : Rep okA w0 N ρ E H tmps w) {d : Nat} (hd : d < N) {x : TV} {y : Value} (h : RelT w (okF okA w0.heap.size ρ H w.heap.size) ρ x y) : Rep okA w0 N ρ ((d, x) :: E) H (tmps.setIfInBounds d y) w := by
  refine ⟨r.below, r.own, r.heap, r.disj, fun i z hz => ?_, by simpa using r.size, r.lent, r.small⟩
  simp only [lk] at hz
  cases hi : Nat.beq i d with
  | true =>
    rw [hi] at hz
    simp only [cond_true, Option.some.injEq] at hz
    subst hz
    have hid : i = d := Nat.eq_of_beq_eq_true hi
    subst hid
    exact ⟨y, by simp [Nat.lt_of_lt_of_le hd r.size], h⟩
  | false =>
    rw [hi] at hz
    simp only [cond_false] at hz
    have hid : d ≠ i := fun e => by subst e; simp at hi
    obtain ⟨u, hu, hr⟩ := r.env i z hz
    exact ⟨u, by rw [Array.getElem?_setIfInBounds_ne hid]; exact hu, hr⟩

/-- A temporary of which nothing is known. -/
theorem Rep.junk (r : Rep okA w0 N ρ E H tmps w) {d : Nat} (hd : d < N) (y : Value) : Rep okA w0 N ρ ((d, .junk) :: E) H (tmps.setIfInBounds d y) w := r.put hd (by simp only [RelT])

/-- Less is known of the temporaries. -/
theorem Rep.sub (r : Rep okA w0 N ρ E H tmps w) {E' : Env} (h : ∀ i x, lk i E' = some x → lk i E = some x) : Rep okA w0 N ρ E' H tmps w :=
  ⟨r.below, r.own, r.heap, r.disj, fun i x hx => r.env i x (h i x hx), r.size, r.lent, r.small⟩
end

def frE (h : Nat) : Env → Bool
  | [] => true
  | (_, x) :: r => !x.says h && frE h r

theorem frE_spec {h : Nat} : ∀ {E : Env}, frE h E = true → ∀ i x, lk i E = some x → x.says h = false
  | [], _, i, x, hx => by simp [lk] at hx
  | (j, z) :: r, hf, i, x, hx => by
    simp only [frE, Bool.and_eq_true, Bool.not_eq_true'] at hf
    simp only [lk] at hx
    cases hij : Nat.beq i j with
    | true => rw [hij] at hx; simp only [cond_true, Option.some.injEq] at hx; rw [← hx]; exact hf.1
    | false => rw [hij] at hx; simp only [cond_false] at hx; exact frE_spec hf.2 i x hx

theorem hk_cons {h h' : Nat} {m m' : MB} {H : Hp} (h1 : hk h' ((h, m) :: H) = some m') : (h' = h ∧ m' = m) ∨ (h' ≠ h ∧ hk h' H = some m') := by
  simp only [hk] at h1
  cases hij : Nat.beq h' h with
  | true => rw [hij] at h1; simp only [cond_true, Option.some.injEq] at h1; exact .inl ⟨Nat.eq_of_beq_eq_true hij, h1.symm⟩
  | false => rw [hij] at h1; simp only [cond_false] at h1; exact .inr ⟨fun e => by subst e; simp at hij, h1⟩
theorem hk_same {h : Nat} {m : MB} {H : Hp} : hk h ((h, m) :: H) = some m := by simp [hk]
theorem hk_other {h h' : Nat} {m : MB} {H : Hp} (hn : h' ≠ h) : hk h' ((h, m) :: H) = hk h' H := by
  simp only [hk]
  cases hij : Nat.beq h' h with
  | true => exact absurd (Nat.eq_of_beq_eq_true hij) hn
  | false => rfl

def upd (ρ : Nat → Value) (h : Nat) (y : Value) : Nat → Value := fun i => if i = h then y else ρ i
theorem upd_same {ρ : Nat → Value} {h : Nat} {y : Value} : upd ρ h y h = y := by simp [upd]
theorem upd_other {ρ : Nat → Value} {h i : Nat} {y : Value} (hn : i ≠ h) : upd ρ h y i = ρ i := by simp [upd, hn]

section
variable {okA : Acc} {w0 : World} {N : Nat} {ρ : Nat → Value} {E : Env} {H : Hp} {tmps : Array Value} {w w' : World}

theorem Rep.blk_lt (r : Rep okA w0 N ρ E H tmps w) {h : Nat} {m : MB} (hm : hk h H = some m) {b : Nat} (hb : blk (ρ h) = some b) : (w0.heap.size ≤ b ∨ (pH h = true ∧ okA.wr b)) ∧ b < w.heap.size := ⟨r.own h m b hm hb, ((r.heap h m hm).bounds hb).2⟩

/-- A handle is put at new memory, or at the memory of an elder handle of the same number. y: its value; m: what it holds; every other block stands as it was. -/
theorem Rep.at_ (r : Rep okA w0 N ρ E H tmps w) {h : Nat} {m : MB} {y : Value} (hB : Frm okA w0.heap.size w w')
    (hw : ∀ b, b < w.heap.size → (∀ m0, hk h H = some m0 → blk (ρ h) ≠ some b) → w'.heap[b]? = w.heap[b]?)
    (hy : ∀ b, blk y = some b → w.heap.size ≤ b ∨ ∃ m0, hk h H = some m0 ∧ blk (ρ h) = some b)
    (hE : y = ρ h ∨ frE h E = true) (hp : y = ρ h ∨ pH h = false)
    (hm : (∀ f b, okF okA w0.heap.size ρ H w.heap.size f b → okF okA w0.heap.size (upd ρ h y) ((h, m) :: H) w'.heap.size f b) → RelB w' (okF okA w0.heap.size (upd ρ h y) ((h, m) :: H) w'.heap.size) 0 m y) :
    Rep okA w0 N (upd ρ h y) E ((h, m) :: H) tmps w' := by
  have hok : ∀ f b, okF okA w0.heap.size ρ H w.heap.size f b → okF okA w0.heap.size (upd ρ h y) ((h, m) :: H) w'.heap.size f b := by
    intro f b hb
    refine ⟨Nat.lt_of_lt_of_le hb.1 hB.size, fun h' m' hm' => ?_, hb.2.2⟩
    rcases hk_cons hm' with ⟨rfl, rfl⟩ | ⟨hn, hm''⟩
    · rw [upd_same]
      intro e
      rcases hy b e with h1 | ⟨m0, h1, h2⟩
      · exact absurd hb.1 (by omega)
      · exact hb.2.1 _ m0 h1 h2
    · rw [upd_other hn]
      exact hb.2.1 h' m' hm''
  have hst : ∀ f b, okF okA w0.heap.size ρ H w.heap.size f b → w'.heap[b]? = w.heap[b]? := fun f b hb => hw b hb.1 (fun m0 hm0 => hb.2.1 h m0 hm0)
  refine ⟨r.below.trans hB, fun h' m' b hm' hb => ?_, fun h' m' hm' => ?_, fun h1 h2 m1 m2 b e1 e2 hne hb1 => ?_, fun i x hx => ?_, r.size, ?_, r.small⟩
  · rcases hk_cons hm' with ⟨rfl, rfl⟩ | ⟨hn, hm''⟩
    · rw [upd_same] at hb
      rcases hy b hb with h1 | ⟨m0, h1, h2⟩
      · exact .inl (Nat.le_trans r.below.size h1)
      · exact r.own _ m0 b h1 h2
    · rw [upd_other hn] at hb
      exact r.own h' m' b hm'' hb
  · rcases hk_cons hm' with ⟨rfl, rfl⟩ | ⟨hn, hm''⟩
    · rw [upd_same]; exact hm hok
    · rw [upd_other hn]
      have h0 := r.heap h' m' hm''
      refine h0.mono hok hst (fun b hb => hw b (h0.bounds hb).2 (fun m0 hm0 e => ?_))
      exact r.disj h h' m0 m' b hm0 hm'' (Ne.symm hn) e hb
  · rcases hk_cons e1 with ⟨rfl, rfl⟩ | ⟨hn1, e1'⟩ <;> rcases hk_cons e2 with ⟨rfl, rfl⟩ | ⟨hn2, e2'⟩
    · exact absurd rfl hne
    · rw [upd_same] at hb1
      rw [upd_other hn2]
      rcases hy b hb1 with h3 | ⟨m0, h3, h4⟩
      · intro h4
        exact absurd (r.blk_lt e2' h4).2 (by omega)
      · exact r.disj _ h2 m0 m2 b h3 e2' hne h4
    · rw [upd_other hn1] at hb1
      rw [upd_same]
      intro h4
      rcases hy b h4 with h3 | ⟨m0, h3, h5⟩
      · exact absurd (r.blk_lt e1' hb1).2 (by omega)
      · exact r.disj _ _ m0 m1 b h3 e1' (Ne.symm hne) h5 hb1
    · rw [upd_other hn1] at hb1
      rw [upd_other hn2]
      exact r.disj h1 h2 m1 m2 b e1' e2' hne hb1
  · obtain ⟨u, hu, hr⟩ := r.env i x hx
    refine ⟨u, hu, hr.mono hok hst (fun h' hs => ?_) (fun _ h h' => h.old h')⟩
    by_cases hh : h' = h
    · subst hh
      rcases hE with hE | hE
      · rw [upd_same, hE]
      · rw [frE_spec hE i x hx] at hs; cases hs
    · exact upd_other hh
  · by_cases hh : h = 1000000
    · subst hh
      rcases hp with hp | hp
      · rw [upd_same, hp]; exact r.lent
      · cases hp
    · rw [upd_other (Ne.symm hh)]; exact r.lent

theorem pH_lt (r : Rep okA w0 N ρ E H tmps w) {d : Nat} (h : Nat.blt d N = true) : pH d = false := by
  have h1 : d < N := Nat.le_of_ble_eq_true h
  have h2 := r.small
  unfold pH
  cases h3 : Nat.ble 1000000 d
  · rfl
  · have := Nat.le_of_ble_eq_true h3; omega

/-- Fewer handles are told. -/
theorem Rep.subH (r : Rep okA w0 N ρ E H tmps w) {H' : Hp} (h : ∀ i m, hk i H' = some m → hk i H = some m) : Rep okA w0 N ρ E H' tmps w := by
  have hok : ∀ f b, okF okA w0.heap.size ρ H w.heap.size f b → okF okA w0.heap.size ρ H' w.heap.size f b := fun f b hb => ⟨hb.1, fun h' m' hm' => hb.2.1 h' m' (h _ _ hm'), hb.2.2⟩
  refine ⟨r.below, fun i m b hm hb => r.own i m b (h _ _ hm) hb, fun i m hm => (r.heap i m (h _ _ hm)).mono hok (fun _ _ _ => rfl) (fun _ _ => rfl), fun h1 h2 m1 m2 b e1 e2 => r.disj h1 h2 m1 m2 b (h _ _ e1) (h _ _ e2), fun i x hx => ?_, r.size, r.lent, r.small⟩
  obtain ⟨u, hu, hr⟩ := r.env i x hx
  exact ⟨u, hu, hr.mono hok (fun _ _ _ => rfl) (fun _ _ => rfl) (fun _ h h' => h.old h')⟩
end

/-! ### Judgements -/

/-- What holds at an end. -/
def Post (okA : Acc) (w0 : World) (N : Nat) (Q : Exit → Env → Hp → Prop) : Exit → Act → World → Prop := fun e a w =>
  (∀ c, e ≠ .panic c) ∧ e ≠ .outgrown ∧ a.defers = [] ∧ ∃ ρ E H, Rep okA w0 N ρ E H a.tmps w ∧ Q e E H

def Tr (P : Program) (N : Nat) (c : Code) (E : Env) (H : Hp) (Q : Exit → Env → Hp → Prop) : Prop :=
  ∀ okA w0 ρ tmps w, Rep okA w0 N ρ E H tmps w → c.wp P (Post okA w0 N Q) ⟨tmps, []⟩ w

def TrL (P : Program) (N : Nat) (ops : Array Oper) (rest : List Oper) (E : Env) (H : Hp) (Q : Exit → Env → Hp → Prop) : Prop :=
  ∀ okA w0 ρ tmps w, Rep okA w0 N ρ E H tmps w → wpList P ops (Post okA w0 N Q) rest ⟨tmps, []⟩ w

section
variable {P : Program} {N : Nat} {E : Env} {H : Hp} {Q : Exit → Env → Hp → Prop} {ops : Array Oper} {rest : List Oper}

theorem Tr.conseq {c : Code} {Q' : Exit → Env → Hp → Prop} (h : Tr P N c E H Q) (hq : ∀ e E H, Q e E H → Q' e E H) : Tr P N c E H Q' :=
  fun okA w0 ρ tmps w r => wp_mono (h okA w0 ρ tmps w r) fun _ _ _ ⟨h1, h2, h3, ρ, E, H, hr, q⟩ => ⟨h1, h2, h3, ρ, E, H, hr, hq _ _ _ q⟩

def then_ (K : Env → Hp → Prop) (Q : Exit → Env → Hp → Prop) : Exit → Env → Hp → Prop
  | .normal, E, H => K E H
  | e, E, H => Q e E H

theorem seq_ {x y : Code} (h : Tr P N x E H (then_ (fun E H => Tr P N y E H Q) Q)) : Tr P N (.seq x y) E H Q := by
  intro okA w0 ρ tmps w r
  refine wp_seq (wp_mono (h okA w0 ρ tmps w r) fun e a w ⟨h1, h2, h3, ρ, E, H, hr, q⟩ => ?_)
  cases e with
  | normal =>
    simp only [then_] at q
    have := q okA w0 ρ a.tmps w hr
    simp only [Exit.then]
    rw [← h3] at this
    exact this
  | exit id => exact ⟨h1, h2, h3, ρ, E, H, hr, q⟩
  | goto id => exact ⟨h1, h2, h3, ρ, E, H, hr, q⟩
  | ret => exact ⟨h1, h2, h3, ρ, E, H, hr, q⟩
  | panic c => exact absurd rfl (h1 c)
  | outgrown => exact absurd rfl h2

def blk_ (id : Nat) (Q : Exit → Env → Hp → Prop) : Exit → Env → Hp → Prop
  | .exit j, E, H => bif Nat.beq j id then Q .normal E H else Q (.exit j) E H
  | e, E, H => Q e E H

theorem block_ {id : Nat} {c : Code} (h : Tr P N c E H (blk_ id Q)) : Tr P N (.block id c) E H Q := by
  intro okA w0 ρ tmps w r
  refine wp_block (wp_mono (h okA w0 ρ tmps w r) fun e a w ⟨h1, h2, h3, ρ, E, H, hr, q⟩ => ?_)
  cases e with
  | exit j =>
    simp only [blk_] at q
    simp only [Exit.inBlock]
    by_cases hj : j = id
    · rw [if_pos hj]
      subst hj
      rw [Nat.beq_refl] at q
      exact ⟨by simp, by simp, h3, ρ, E, H, hr, q⟩
    · rw [if_neg hj]
      have : Nat.beq j id = false := by cases hb : Nat.beq j id; rfl; exact absurd (Nat.eq_of_beq_eq_true hb) hj
      rw [this] at q
      exact ⟨by simp, by simp, h3, ρ, E, H, hr, q⟩
  | normal => exact ⟨h1, h2, h3, ρ, E, H, hr, q⟩
  | goto id => exact ⟨h1, h2, h3, ρ, E, H, hr, q⟩
  | ret => exact ⟨h1, h2, h3, ρ, E, H, hr, q⟩
  | panic c => exact absurd rfl (h1 c)
  | outgrown => exact absurd rfl h2

theorem skip_ (h : Q .normal E H) : Tr P N .skip E H Q := fun _ _ ρ _ _ r => wp_skip ⟨by simp, by simp, rfl, ρ, E, H, r, h⟩
theorem exit_ {id : Nat} (h : Q (.exit id) E H) : Tr P N (.exit id) E H Q := fun _ _ ρ _ _ r => wp_exit ⟨by simp, by simp, rfl, ρ, E, H, r, h⟩
theorem ret_ (h : Q .ret E H) : Tr P N .ret E H Q := fun _ _ ρ _ _ r => wp_ret ⟨by simp, by simp, rfl, ρ, E, H, r, h⟩

theorem region_ {id : Nat} {l : List Oper} (h : TrL P N l.toArray l E H Q) : Tr P N (.region id l.toArray false) E H Q :=
  fun okA w0 ρ tmps w r => wp_region_lit (h okA w0 ρ tmps w r)

theorem nil_ (h : Q .normal E H) : TrL P N ops [] E H Q := fun _ _ ρ _ _ r => wpList_nil ⟨by simp, by simp, rfl, ρ, E, H, r, h⟩

theorem TrL.sub {E' : Env} {H' : Hp} (h : TrL P N ops rest E' H' Q) (hE : ∀ i x, lk i E' = some x → lk i E = some x) (hH : ∀ i m, hk i H' = some m → hk i H = some m) : TrL P N ops rest E H Q :=
  fun okA w0 ρ tmps w r => h okA w0 ρ tmps w ((r.subH hH).sub hE)
theorem Tr.sub {c : Code} {E' : Env} {H' : Hp} (h : Tr P N c E' H' Q) (hE : ∀ i x, lk i E' = some x → lk i E = some x) (hH : ∀ i m, hk i H' = some m → hk i H = some m) : Tr P N c E H Q :=
  fun okA w0 ρ tmps w r => h okA w0 ρ tmps w ((r.subH hH).sub hE)

/-- A loop: its heads are the states S y, y with I y. -/
theorem loop_ {α : Type} {c : Code} (S : α → Env × Hp) (I : α → Prop) (m : α → Nat) (y0 : α)
    (h0 : I y0) (hE : ∀ i x, lk i (S y0).1 = some x → lk i E = some x) (hH : ∀ i m, hk i (S y0).2 = some m → hk i H = some m)
    (h : ∀ y, I y → Tr P N c (S y).1 (S y).2 (then_ (fun E' H' => ∃ z, I z ∧ m z < m y ∧ (∀ i x, lk i (S z).1 = some x → lk i E' = some x) ∧ (∀ i m, hk i (S z).2 = some m → hk i H' = some m)) Q)) :
    Tr P N (.loop c) E H Q := by
  intro okA w0 ρ tmps w r
  have key : ∀ n, ∀ y, m y = n → I y → ∀ ρ tmps w, Rep okA w0 N ρ (S y).1 (S y).2 tmps w → ∀ (b : Frame) (k : List Item) (cs : List Frame),
      ∃ e a' w', Post okA w0 N Q e a' w' ∧ Arrives P (lone (b.at ⟨tmps, []⟩ (.code c :: .inLoop c :: k)) cs w) b k cs e a' w' := by
    intro n
    induction n using Nat.strongRecOn with
    | _ n ih =>
      intro y hn hI ρ tmps w r b k cs
      obtain ⟨e, a₁, w₁, ⟨h1, h2, h3, ρ', E', H', hr, q⟩, harr⟩ := h y hI okA w0 ρ tmps w r b (.inLoop c :: k) cs
      cases e with
      | normal =>
        simp only [then_] at q
        obtain ⟨z, hz, hlt, hE', hH'⟩ := q
        obtain ⟨e₂, a₂, w₂, hq₂, harr₂⟩ := ih (m z) (hn ▸ hlt) z rfl hz ρ' a₁.tmps w₁ ((hr.subH hH').sub hE') b k cs
        refine ⟨e₂, a₂, w₂, hq₂, .of_steps (Steps.trans harr (.one ?_)) harr₂⟩
        have : a₁ = ⟨a₁.tmps, []⟩ := by cases a₁; simp at h3; simp [h3]
        rw [← this]
        exact step_inLoop
      | exit id => exact ⟨_, a₁, w₁, ⟨h1, h2, h3, ρ', E', H', hr, q⟩, .pass (x := .inLoop c) rfl (fun _ _ => .inl (by simp)) harr⟩
      | goto l => exact ⟨_, a₁, w₁, ⟨h1, h2, h3, ρ', E', H', hr, q⟩, .pass (x := .inLoop c) rfl (fun _ _ => .inl (by simp)) harr⟩
      | ret => exact ⟨_, a₁, w₁, ⟨h1, h2, h3, ρ', E', H', hr, q⟩, .pass (x := .inLoop c) rfl (fun _ _ => .inl (by simp)) harr⟩
      | panic ch => exact absurd rfl (h1 ch)
      | outgrown => exact absurd rfl h2
  intro b k cs
  obtain ⟨e, a', w', hq, harr⟩ := key _ y0 rfl h0 ρ tmps w ((r.subH hH).sub hE) b k cs
  exact ⟨e, a', w', hq, .of_steps (.one step_loop) harr⟩
end

/-! ### Operations that yield a value and change nothing -/

inductive Rd where
  | no
  | hd (h : Nat)
  | im

def Rd.same (rd : Rd) (ok : Bool → Nat → Prop) (ρ : Nat → Value) (w W : World) : Prop :=
  match rd with
  | .no => True
  | .hd h => ∀ b, blk (ρ h) = some b → W.heap[b]? = w.heap[b]?
  | .im => ∀ b, ok false b → W.heap[b]? = w.heap[b]?

theorem Rd.same_refl (rd : Rd) (ok : Bool → Nat → Prop) (ρ : Nat → Value) (w : World) : rd.same ok ρ w w := by cases rd <;> simp [Rd.same]

def Yl (P : Program) (op : Op) (ty : TypeId) (E : Env) (H : Hp) (x : TV) (rd : Rd) : Prop :=
  ∀ okA w0 N ρ tmps w, Rep okA w0 N ρ E H tmps w → ∃ y, (∀ W, rd.same (okF okA w0.heap.size ρ H w.heap.size) ρ w W → ∀ dst pos after guard, (execOp (Act.eval ⟨tmps, []⟩) ⟨dst, op, ty, pos, after, guard⟩).run P W = .ok (.value y) W) ∧
    RelT w (okF okA w0.heap.size ρ H w.heap.size) ρ x y

def evT (E : Env) : Operand → Option TV
  | .tmp i => lk i E
  | .const v => some (.p (.v v))
  | .func f => some (.p (.v (.func (.func f) #[] #[])))
  | .global _ => none

section
variable {P : Program} {N : Nat} {E : Env} {H : Hp} {Q : Exit → Env → Hp → Prop} {ops : Array Oper} {rest : List Oper}

theorem ev_rel {okA : Acc} {w0 : World} {ρ : Nat → Value} {tmps : Array Value} {w : World} (r : Rep okA w0 N ρ E H tmps w) {o : Operand} {x : TV} (h : evT E o = some x) :
    RelT w (okF okA w0.heap.size ρ H w.heap.size) ρ x (Act.eval ⟨tmps, []⟩ o) := by
  cases o with
  | tmp i =>
    obtain ⟨y, hy, hr⟩ := r.env i x h
    have : Act.eval ⟨tmps, []⟩ (.tmp i) = y := by simp [Act.eval, hy]
    rw [this]; exact hr
  | const v => simp only [evT, Option.some.injEq] at h; subst h; simp [RelT, Rel, Act.eval]
  | func f => simp only [evT, Option.some.injEq] at h; subst h; simp [RelT, Rel, Act.eval]
  | global g => simp [evT] at h

theorem ev_v {okA : Acc} {w0 : World} {ρ : Nat → Value} {tmps : Array Value} {w : World} (r : Rep okA w0 N ρ E H tmps w) {o : Operand} {v : Value} (h : evT E o = some (.p (.v v))) : Act.eval ⟨tmps, []⟩ o = v := by
  have := ev_rel r h
  simpa only [RelT, Rel] using this

theorem stepY {d : Nat} {op : Op} {ty : TypeId} {pos : String} {af : Array Edge} {x : TV} {rd : Rd} (h : Yl P op ty E H x rd) (hd : Nat.blt d N = true) (k : TrL P N ops rest ((d, x) :: E) H Q) :
    TrL P N ops (⟨some d, op, ty, pos, af, none⟩ :: rest) E H Q := by
  intro okA w0 ρ tmps w r
  obtain ⟨y, hrun, hr⟩ := h okA w0 N ρ tmps w r
  refine wpList_plain rfl fun K hK => ?_
  have := hrun w (rd.same_refl _ _ _) (some d) pos af none
  simp only [Oper.wp, this, Oper.upon]
  exact hK _ _ (k okA w0 ρ _ w (r.put (Nat.le_of_ble_eq_true hd) hr))

theorem y_move {x : Operand} {ty : TypeId} {t : TV} (h : evT E x = some t) : Yl P (.move x) ty E H t .no :=
  fun _ _ _ _ _ _ r => ⟨_, fun _ _ _ _ _ _ => by simp only [execOp]; rfl, ev_rel r h⟩
theorem y_assign {x : Operand} {ty : TypeId} {t : TV} (h : evT E x = some t) : Yl P (.assign x) ty E H t .no :=
  fun _ _ _ _ _ _ r => ⟨_, fun _ _ _ _ _ _ => by simp only [execOp]; rfl, ev_rel r h⟩
theorem y_pick_t {c a b : Operand} {ty : TypeId} {t : TV} (hc : evT E c = some (.p (.v (.bool true)))) (h : evT E a = some t) : Yl P (.pick c a b) ty E H t .no :=
  fun _ _ _ _ _ _ r => ⟨_, fun _ _ _ _ _ _ => by simp [execOp, ev_v r hc, asBool], ev_rel r h⟩
theorem y_pick_f {c a b : Operand} {ty : TypeId} {t : TV} (hc : evT E c = some (.p (.v (.bool false)))) (h : evT E b = some t) : Yl P (.pick c a b) ty E H t .no :=
  fun _ _ _ _ _ _ r => ⟨_, fun _ _ _ _ _ _ => by simp [execOp, ev_v r hc, asBool], ev_rel r h⟩

/-- What an operator on two whole numbers gives. -/
def binR : BinOp → IntKind → Int → Int → Option Value
  | .add, k, a, b => some (.int k (k.wrap (a + b)))
  | .sub, k, a, b => some (.int k (k.wrap (a - b)))
  | .mul, k, a, b => some (.int k (k.wrap (a * b)))
  | .and, k, a, b => some (.int k (bits .and k a b))
  | .or, k, a, b => some (.int k (bits .or k a b))
  | .xor, k, a, b => some (.int k (bits .xor k a b))
  | .eql, _, a, b => some (.bool (decide (a = b)))
  | .neq, _, a, b => some (.bool (decide (a ≠ b)))
  | .lss, _, a, b => some (.bool (decide (a < b)))
  | .leq, _, a, b => some (.bool (decide (a ≤ b)))
  | .gtr, _, a, b => some (.bool (decide (b < a)))
  | .geq, _, a, b => some (.bool (decide (b ≤ a)))
  | _, _, _, _ => none

theorem binR_run {op : BinOp} {k : IntKind} {a b : Int} {v : Value} (h : binR op k a b = some v) (t : TypeId) (x y : Operand) (W : World) :
    (do eqGuard op t x y (.int k a) (.int k b); binOp op t (.int k a) (.int k b) : Sem Value).run P W = .ok v W := by
  cases op <;> simp only [binR, Option.some.injEq, reduceCtorEq] at h <;> subst h <;> simp [eqGuard_at_int, binOp, Op.intArith, Op.intBits, Op.intCmp, bits]
  all_goals first | rfl | (rw [Bool.eq_iff_iff]; simp) | skip

theorem y_bin {op : BinOp} {x y : Operand} {t t' ty : TypeId} {k : IntKind} {a b : Int} {v : Value} (hx : evT E x = some (.p (.v (.int k a)))) (hy : evT E y = some (.p (.v (.int k b)))) (hv : binR op k a b = some v) :
    Yl P (.binOp op t x y t') ty E H (.p (.v v)) .no :=
  fun _ _ _ _ _ _ r => ⟨v, fun W _ _ _ _ _ => by
    have := binR_run (P := P) hv t x y W
    rw [← ev_v r hx, ← ev_v r hy] at this
    simp only [execOp]
    rw [Sem.run_bind, this]
    rfl, by simp [RelT, Rel]⟩
end

/-! ### Facts on types -/
class TOne (P : Program) (t : TypeId) : Prop where
  out : ∃ d, P.underlying t = some d ∧ (match d with | .struct _ | .array _ _ => False | _ => True) ∧ (P.info? t).map (·.size) = some 1
class TAgg (P : Program) (t : TypeId) (n : outParam Nat) : Prop where
  out : ∃ d, P.underlying t = some d ∧ (match d with | .struct _ | .array _ _ => True | _ => False) ∧ (P.info? t).map (·.size) = some n
class TFld (P : Program) (s : TypeId) (f : Nat) (off : outParam Nat) : Prop where
  out : ∃ fs fd n, P.underlying s = some (.struct fs) ∧ fs[f]? = some fd ∧ fd.offset = off ∧ (P.info? fd.type).map (·.size) = some (n + 1)
class TSl (P : Program) (t : TypeId) (e : outParam TypeId) (sz : outParam Nat) : Prop where
  out : P.underlying t = some (.slice e) ∧ (P.info? e).map (·.size) = some sz
class TStr (P : Program) (t : TypeId) : Prop where
  out : P.underlying t = some .string
class TInt (P : Program) (t : TypeId) (k : outParam IntKind) : Prop where
  out : P.underlying t = some (.int k)

def rd (l : List Int) (i : Int) : Int := l.getD i.toNat 0
def rdP (l : List PV) (i : Int) : PV := l.getD i.toNat (.ag [])

section
variable {P : Program} {N : Nat} {E : Env} {H : Hp} {Q : Exit → Env → Hp → Prop} {ops : Array Oper} {rest : List Oper}

theorem y_not {x : Operand} {t ty : TypeId} {b : Bool} (hx : evT E x = some (.p (.v (.bool b)))) : Yl P (.unOp .not t x) ty E H (.p (.v (.bool (!b)))) .no :=
  fun _ _ _ _ _ _ r => ⟨_, fun _ _ _ _ _ _ => by simp only [execOp, ev_v r hx, Op.unary]; rfl, by simp [RelT, Rel]⟩
theorem y_neg {x : Operand} {t ty : TypeId} {k : IntKind} {n : Int} (hx : evT E x = some (.p (.v (.int k n)))) : Yl P (.unOp .neg t x) ty E H (.p (.v (.int k (k.wrap (-n))))) .no :=
  fun _ _ _ _ _ _ r => ⟨.int k (k.wrap (0 - n)), fun _ _ _ _ _ _ => by simp only [execOp, ev_v r hx, Op.unary]; rfl, by simp [RelT, Rel]⟩
theorem y_com {x : Operand} {t ty : TypeId} {k : IntKind} {n : Int} (hx : evT E x = some (.p (.v (.int k n)))) : Yl P (.unOp .xor t x) ty E H (.p (.v (.int k (bits .xor k (if k.signed then -1 else k.max) n)))) .no :=
  fun _ _ _ _ _ _ r => ⟨_, fun _ _ _ _ _ _ => by simp only [execOp, ev_v r hx, Op.unary]; rfl, by simp [RelT, Rel, bits]⟩
theorem y_conv {x : Operand} {s t ty : TypeId} {k k' : IntKind} {n : Int} (hx : evT E x = some (.p (.v (.int k n)))) [hs : TInt P s k] [ht : TInt P t k'] : Yl P (.convert s t x) ty E H (.p (.v (.int k' (k'.wrap n)))) .no :=
  fun _ _ _ _ _ _ r => ⟨.int k' (k'.wrap n), fun _ _ _ _ _ _ => by simp [execOp, ev_v r hx, convert, run_underlying hs.out, run_underlying ht.out, Conv.intToInt], by simp [RelT, Rel]⟩

theorem Rels.get {w : World} {ok : Bool → Nat → Prop} : ∀ {xs : List PV} {ys : List Value}, Rels w ok xs ys → ∀ {i : Nat} {x : PV}, xs[i]? = some x → ∃ y, ys[i]? = some y ∧ Rel w ok x y
  | [], _, _, i, x, hx => by simp at hx
  | z :: zs, ys, h, i, x, hx => by
    simp only [Rels] at h
    obtain ⟨y, us, rfl, hz, hzs⟩ := h
    cases i with
    | zero => simp at hx; subst hx; exact ⟨y, by simp, hz⟩
    | succ i => simp at hx; obtain ⟨u, hu, hr⟩ := Rels.get hzs hx; exact ⟨u, by simpa using hu, hr⟩
theorem Rels.length {w : World} {ok : Bool → Nat → Prop} : ∀ {xs : List PV} {ys : List Value}, Rels w ok xs ys → ys.length = xs.length
  | [], _, h => by simp only [Rels] at h; subst h; rfl
  | z :: zs, ys, h => by
    simp only [Rels] at h
    obtain ⟨y, us, rfl, hz, hzs⟩ := h
    simp [Rels.length hzs]

theorem y_extract {x : Operand} {ty : TypeId} {i : Nat} {fs : List PV} {z : PV} (hx : evT E x = some (.p (.tp fs))) (hz : fs[i]? = some z) : Yl P (.extract x i) ty E H (.p z) .no :=
  fun _ _ _ _ _ _ r => by
    have h := ev_rel r hx
    simp only [RelT, Rel] at h
    obtain ⟨ys, e, hs⟩ := h
    obtain ⟨y, hy, hr⟩ := hs.get hz
    exact ⟨y, fun _ _ _ _ _ _ => by simp [execOp, e, Instr.extract, hy], by simpa only [RelT] using hr⟩

theorem y_fieldAddr {x : Operand} {s ty : TypeId} {f off h o : Nat} [hf : TFld P s f off] (hx : evT E x = some (.ptr h o)) : Yl P (.fieldAddr s x f) ty E H (.ptr h (o + off)) .no :=
  fun _ _ _ _ _ _ r => by
    obtain ⟨fs, fd, n, h1, h2, h3, h4⟩ := hf.out
    obtain ⟨i, hi, hn⟩ := Option.map_eq_some_iff.1 h4
    have h := ev_rel r hx
    simp only [RelT] at h
    obtain ⟨g, hg, e⟩ := h
    refine ⟨.pointer (some ⟨g, o + off, none⟩), fun W _ _ _ _ _ => ?_, by simp only [RelT]; exact ⟨g, hg, rfl⟩⟩
    simp [execOp, e, Instr.fieldAt, run_underlying h1, h2, Instr.sureAddr, fieldPlace, sizeOf, typeInfo, hi, hn, h3, Addr.add_lit]

theorem y_fieldAddr_rc {x : Operand} {s ty : TypeId} {f off : Nat} {cs : List PV} {z : PV} [hf : TFld P s f off] (hx : evT E x = some (.rc (.ag cs))) (hz : cs[off]? = some z) (h1 : match z with | .ag _ | .tp _ => False | .v u => u.oneCell' = true | _ => True) : Yl P (.fieldAddr s x f) ty E H (.rc z) .no :=
  fun _ _ _ _ _ _ r => by
    obtain ⟨fs, fd, n, h1', h2, h3, h4⟩ := hf.out
    obtain ⟨i, hi, hn⟩ := Option.map_eq_some_iff.1 h4
    have h := ev_rel r hx
    simp only [RelT, Rel] at h
    obtain ⟨b, o, u, e, hok, ⟨ys, rfl, hs⟩, hc⟩ := h
    obtain ⟨y, hy, hr⟩ := hs.get hz
    refine ⟨.pointer (some ⟨b, o + off, none⟩), fun W _ _ _ _ _ => ?_, ?_⟩
    · simp [execOp, e, Instr.fieldAt, run_underlying h1', h2, Instr.sureAddr, fieldPlace, sizeOf, typeInfo, hi, hn, h3, Addr.add_lit]
    · simp only [RelT]
      have hcell := hc off y (by simpa [Value.cells] using hy)
      have hone : y.cells.toList = [y] := by
        cases z with
        | v x => simp only [Rel] at hr; subst hr; cases y <;> simp_all [Value.cells, Value.oneCell']
        | si f k l => simp only [Rel] at hr; obtain ⟨A, c, rfl, _⟩ := hr; rfl
        | ss f sz es => simp only [Rel] at hr; obtain ⟨A, c, ys, rfl, _⟩ := hr; rfl
        | ag cs => exact h1.elim
        | tp cs => exact h1.elim
      refine ⟨b, o + off, y, rfl, hok, hr, fun j v hj => ?_⟩
      rw [hone] at hj
      cases j with
      | zero => simp at hj; subst hj; exact hcell
      | succ j => simp at hj

theorem y_field {x : Operand} {s ty : TypeId} {f off : Nat} {cs : List PV} {z : PV} [hf : TFld P s f off] (hone : ∀ fs fd, P.underlying s = some (.struct fs) → fs[f]? = some fd → TOne P fd.type) (hx : evT E x = some (.p (.ag cs))) (hz : cs[off]? = some z) : Yl P (.field s x f) ty E H (.p z) .no :=
  fun _ _ _ _ _ _ r => by
    obtain ⟨fs, fd, n, h1, h2, h3, h4⟩ := hf.out
    have h := ev_rel r hx
    simp only [RelT, Rel] at h
    obtain ⟨ys, e, hs⟩ := h
    obtain ⟨y, hy, hr⟩ := hs.get hz
    obtain ⟨d, hd, hd2, _⟩ := (hone fs fd h1 h2).out
    refine ⟨y, fun W _ _ _ _ _ => ?_, by simpa only [RelT] using hr⟩
    subst h3
    cases d <;> first | exact hd2.elim | simp [execOp, e, Instr.field, run_underlying h1, h2, asAgg, part, isAgg, run_underlying hd, hy]

theorem y_index_si {x i : Operand} {t ty e : TypeId} {f : Bool} {k ik : IntKind} {l : List Int} {n : Int} [ht : TSl P t e 1] (hx : evT E x = some (.p (.si f k l))) (hi : evT E i = some (.p (.v (.int ik n)))) (h0 : 0 ≤ n) (h1 : n < l.length) :
    Yl P (.indexAddr t x i) ty E H (.rc (.v (.int k (rd l n)))) .no :=
  fun okA w0 N ρ tmps w r => by
    obtain ⟨ht1, ht2⟩ := ht.out
    obtain ⟨ie, hie, hn⟩ := Option.map_eq_some_iff.1 ht2
    have h := ev_rel r hx
    simp only [RelT, Rel] at h
    obtain ⟨A, c, e1, hc, hm, hl, hcell⟩ := h
    obtain ⟨b, o, rfl, hok, hx1⟩ := hcell (by omega)
    refine ⟨.pointer (some ⟨b, o + n.toNat, none⟩), fun W _ _ _ _ _ => ?_, ?_⟩
    · simp [execOp, e1, ev_v r hi, Instr.indexAt, run_underlying ht1, asIntOf, h0, h1, sizeOf, typeInfo, hie, hn, Addr.add_lit]
    · simp only [RelT, Rel]
      refine ⟨b, o + n.toNat, _, rfl, ?_, rfl, fun j u hj => ?_⟩
      · cases f with
        | false => exact hok.1
        | true => exact hok.1.tag
      · have hlt : n.toNat < l.length := by omega
        cases j with
        | zero =>
          simp [Value.cells] at hj
          subst hj
          have := hx1 n.toNat (l[n.toNat]) (by simp [hlt])
          simpa [rd, List.getD, hlt] using this
        | succ j => simp [Value.cells] at hj

theorem flat_get : ∀ {ys : List Value} {sz : Nat}, (∀ z ∈ ys, z.cells.size = sz) → ∀ {i : Nat} {y : Value}, ys[i]? = some y → ∀ (j : Nat) (u : Value), y.cells.toList[j]? = some u → (flat ys)[i * sz + j]? = some u
  | [], _, _, i, y, hy, _, _, _ => by simp at hy
  | z :: zs, sz, hs, i, y, hy, j, u, hu => by
    have hz : z.cells.toList.length = sz := by simpa using hs z (by simp)
    cases i with
    | zero =>
      simp at hy
      subst hy
      have hj : j < z.cells.toList.length := by rcases Nat.lt_or_ge j z.cells.toList.length with h | h; exact h; rw [List.getElem?_eq_none h] at hu; cases hu
      simp only [flat, List.flatMap_cons, Nat.zero_mul, Nat.zero_add]
      rw [List.getElem?_append_left hj]
      exact hu
    | succ i =>
      simp at hy
      have ih := flat_get (fun v hv => hs v (by simp [hv])) hy j u hu
      simp only [flat, List.flatMap_cons]
      rw [List.getElem?_append_right (by rw [hz, Nat.add_mul]; omega)]
      rw [hz, show (i + 1) * sz + j - sz = i * sz + j by rw [Nat.add_mul]; omega]
      exact ih

theorem y_index_ss {x i : Operand} {t ty e : TypeId} {sz : Nat} {f : Bool} {ik : IntKind} {es : List PV} {n : Int} [ht : TSl P t e sz] (hx : evT E x = some (.p (.ss f sz es))) (hi : evT E i = some (.p (.v (.int ik n)))) (h0 : 0 ≤ n) (h1 : n < es.length) :
    Yl P (.indexAddr t x i) ty E H (.rc (rdP es n)) .no :=
  fun okA w0 N ρ tmps w r => by
    obtain ⟨ht1, ht2⟩ := ht.out
    obtain ⟨ie, hie, hn⟩ := Option.map_eq_some_iff.1 ht2
    have h := ev_rel r hx
    simp only [RelT, Rel] at h
    obtain ⟨A, c, ys, e1, hc, hm, hl, hrs, hsz, hcell⟩ := h
    obtain ⟨b, o, rfl, hok, hx1⟩ := hcell (by omega)
    have hlt : n.toNat < es.length := by omega
    obtain ⟨y, hy, hr⟩ := hrs.get (i := n.toNat) (x := es[n.toNat]) (by simp [hlt])
    refine ⟨.pointer (some ⟨b, o + n.toNat * sz, none⟩), fun W _ _ _ _ _ => ?_, ?_⟩
    · simp [execOp, e1, ev_v r hi, Instr.indexAt, run_underlying ht1, asIntOf, h0, h1, sizeOf, typeInfo, hie, hn, Addr.add_lit]
    · simp only [RelT]
      refine ⟨b, o + n.toNat * sz, y, rfl, ?_, by simpa [rdP, List.getD, hlt] using hr, fun j u hj => ?_⟩
      · cases f with
        | false => exact hok.1
        | true => exact hok.1.tag
      · have := hx1 _ u (flat_get hsz hy j u hj)
        rwa [← Nat.add_assoc] at this

theorem y_index_vec {x i : Operand} {t ty e : TypeId} {sz h : Nat} {ik : IntKind} {n : Int} {m : MB} {len : Nat} [ht : TSl P t e sz] (hx : evT E x = some (.vec h)) (hm : hk h H = some m) (hlen : len = match m with | .vi _ _ l => l.length | .vs _ _ es => es.length | .bx _ => 0 | .it _ _ => 0) (hi : evT E i = some (.p (.v (.int ik n)))) (h0 : 0 ≤ n) (h1 : n < len) :
    Yl P (.indexAddr t x i) ty E H (.vp h (n.toNat * sz)) .no :=
  fun okA w0 N ρ tmps w r => by
    obtain ⟨ht1, ht2⟩ := ht.out
    obtain ⟨ie, hie, hn⟩ := Option.map_eq_some_iff.1 ht2
    have e0 := ev_rel r hx
    simp only [RelT] at e0
    have hb := r.heap h m hm
    have key : ∃ g c, ρ h = .slice (some ⟨g, 0, none⟩) len c := by
      cases m with
      | bx cs => simp at hlen; omega
      | it s pos => simp at hlen; omega
      | vi e k l =>
        simp only [RelB] at hb
        rcases hb.1.2 with ⟨_, h3⟩ | ⟨g, cap, cur, h3, _⟩
        · simp at hlen; omega
        · exact ⟨g, cap, by rw [h3, hlen]⟩
      | vs e sz es =>
        simp only [RelB] at hb
        obtain ⟨ys, _, _, ho, _⟩ := hb
        rcases ho.2 with ⟨_, h3⟩ | ⟨g, cap, cur, h3, _⟩
        · simp at hlen; omega
        · exact ⟨g, cap, by rw [h3, hlen]⟩
    obtain ⟨g, c, hg⟩ := key
    refine ⟨.pointer (some ⟨g, n.toNat * sz, none⟩), fun W _ _ _ _ _ => ?_, by simp only [RelT]; exact ⟨g, _, c, hg, rfl⟩⟩
    simp [execOp, e0, hg, ev_v r hi, Instr.indexAt, run_underlying ht1, asIntOf, h0, h1, sizeOf, typeInfo, hie, hn, Addr.add_lit]

theorem y_len_si {x : Operand} {t ty e : TypeId} {sz : Nat} {f : Bool} {k : IntKind} {l : List Int} [ht : TSl P t e sz] (hx : evT E x = some (.p (.si f k l))) : Yl P (.call { callee := .builtin .len, args := #[x], argTypes := #[t] }) ty E H (.p (.v (.int .i64 l.length))) .no :=
  fun _ _ _ _ _ _ r => by
    have h := ev_rel r hx
    simp only [RelT, Rel] at h
    obtain ⟨A, c, e1, _⟩ := h
    exact ⟨_, fun W _ _ _ _ _ => by simp [execOp, resolve, invoke, builtin, e1, Builtin.len_, run_underlying ht.out.1]; rfl, by simp [RelT, Rel, goInt]⟩
theorem y_len_ss {x : Operand} {t ty e : TypeId} {sz sz' : Nat} {f : Bool} {l : List PV} [ht : TSl P t e sz] (hx : evT E x = some (.p (.ss f sz' l))) : Yl P (.call { callee := .builtin .len, args := #[x], argTypes := #[t] }) ty E H (.p (.v (.int .i64 l.length))) .no :=
  fun _ _ _ _ _ _ r => by
    have h := ev_rel r hx
    simp only [RelT, Rel] at h
    obtain ⟨A, c, ys, e1, _⟩ := h
    exact ⟨_, fun W _ _ _ _ _ => by simp [execOp, resolve, invoke, builtin, e1, Builtin.len_, run_underlying ht.out.1]; rfl, by simp [RelT, Rel, goInt]⟩
theorem y_len_nil {x : Operand} {t ty e : TypeId} {sz : Nat} [ht : TSl P t e sz] (hx : evT E x = some (.p (.v (.slice none 0 0)))) : Yl P (.call { callee := .builtin .len, args := #[x], argTypes := #[t] }) ty E H (.p (.v (.int .i64 0))) .no :=
  fun _ _ _ _ _ _ r => ⟨_, fun W _ _ _ _ _ => by simp [execOp, resolve, invoke, builtin, ev_v r hx, Builtin.len_, run_underlying ht.out.1]; rfl, by simp [RelT, Rel, goInt]⟩
theorem y_len_str {x : Operand} {t ty : TypeId} {s : ByteArray} [ht : TStr P t] (hx : evT E x = some (.p (.v (.string s)))) : Yl P (.call { callee := .builtin .len, args := #[x], argTypes := #[t] }) ty E H (.p (.v (.int .i64 s.size))) .no :=
  fun _ _ _ _ _ _ r => ⟨_, fun W _ _ _ _ _ => by simp [execOp, resolve, invoke, builtin, ev_v r hx, Builtin.len_, run_underlying ht.out]; rfl, by simp [RelT, Rel, goInt]⟩
theorem y_len_vi {x : Operand} {t ty e e' : TypeId} {sz h : Nat} {k : IntKind} {l : List Int} [ht : TSl P t e sz] (hx : evT E x = some (.vec h)) (hm : hk h H = some (.vi e' k l)) : Yl P (.call { callee := .builtin .len, args := #[x], argTypes := #[t] }) ty E H (.p (.v (.int .i64 l.length))) .no :=
  fun _ _ _ ρ _ _ r => by
    have h0 := ev_rel r hx
    simp only [RelT] at h0
    have hb := r.heap h _ hm
    simp only [RelB] at hb
    have : ∃ A c, ρ h = .slice A l.length c := by
      rcases hb.1.2 with ⟨h3, h4⟩ | ⟨g, cap, cur, h3, _⟩
      · exact ⟨none, 0, by rw [h3, h4]⟩
      · exact ⟨_, cap, h3⟩
    obtain ⟨A, c, e1⟩ := this
    exact ⟨_, fun W _ _ _ _ _ => by simp [execOp, resolve, invoke, builtin, h0, e1, Builtin.len_, run_underlying ht.out.1]; rfl, by simp [RelT, Rel, goInt]⟩
theorem y_len_vs {x : Operand} {t ty e e' : TypeId} {sz sz' h : Nat} {l : List PV} [ht : TSl P t e sz] (hx : evT E x = some (.vec h)) (hm : hk h H = some (.vs e' sz' l)) : Yl P (.call { callee := .builtin .len, args := #[x], argTypes := #[t] }) ty E H (.p (.v (.int .i64 l.length))) .no :=
  fun _ _ _ ρ _ _ r => by
    have h0 := ev_rel r hx
    simp only [RelT] at h0
    have hb := r.heap h _ hm
    simp only [RelB] at hb
    obtain ⟨ys, _, _, ho, _⟩ := hb
    have : ∃ A c, ρ h = .slice A l.length c := by
      rcases ho.2 with ⟨h3, h4⟩ | ⟨g, cap, cur, h3, _⟩
      · exact ⟨none, 0, by rw [h3, h4]⟩
      · exact ⟨_, cap, h3⟩
    obtain ⟨A, c, e1⟩ := this
    exact ⟨_, fun W _ _ _ _ _ => by simp [execOp, resolve, invoke, builtin, h0, e1, Builtin.len_, run_underlying ht.out.1]; rfl, by simp [RelT, Rel, goInt]⟩
end

/-! ### Loads -/
def isOne : PV → Bool
  | .v x => x.oneCell'
  | .si _ _ _ | .ss _ _ _ => true
  | .ag _ | .tp _ => false
def ones : List PV → Bool
  | [] => true
  | x :: r => isOne x && ones r
def seg : List PV → Nat → Nat → Option (List PV)
  | _, 0, 0 => some []
  | [], _, _ => none
  | x :: xs, 0, n + 1 => match seg xs 0 n with
    | some r => some (x :: r)
    | none => none
  | _ :: xs, o + 1, n => seg xs o n

theorem cells_one {w : World} {ok : Bool → Nat → Prop} {z : PV} {y : Value} (h : Rel w ok z y) (h1 : isOne z = true) : y.cells.toList = [y] ∧ y.oneCell' = true := by
  cases z with
  | v x => simp only [Rel] at h; subst h; simp only [isOne] at h1; cases y <;> simp_all [Value.cells, Value.oneCell']
  | si f k l => simp only [Rel] at h; obtain ⟨A, c, rfl, _⟩ := h; exact ⟨rfl, rfl⟩
  | ss f sz es => simp only [Rel] at h; obtain ⟨A, c, ys, rfl, _⟩ := h; exact ⟨rfl, rfl⟩
  | ag cs => cases h1
  | tp cs => cases h1

section
variable {P : Program} {N : Nat} {E : Env} {H : Hp} {Q : Exit → Env → Hp → Prop} {ops : Array Oper} {rest : List Oper}

theorem loadVar_one {t : TypeId} [ht : TOne P t] {W : World} {a : Addr} {v : Value} (h : W.cell? a = some v) : (loadVar t a).run P W = .ok v W := by
  obtain ⟨d, hd, hd2, _⟩ := ht.out
  cases d <;> first | exact hd2.elim | simp [loadVar, isAgg, run_underlying hd, h]

theorem loadVar_agg {t : TypeId} {n : Nat} [ht : TAgg P t n] {W : World} {a : Addr} {cs : List Value} (hn : cs.length = n) (h : ∀ j v, cs[j]? = some v → W.cell? (a.add j) = some v) : (loadVar t a).run P W = .ok (.agg cs.toArray) W := by
  obtain ⟨d, hd, hd2, hs⟩ := ht.out
  obtain ⟨i, hi, hin⟩ := Option.map_eq_some_iff.1 hs
  have := run_loadCells_list (P := P) W a cs h
  rw [hn] at this
  cases d <;> first | exact hd2.elim | simp [loadVar, isAgg, run_underlying hd, sizeOf, typeInfo, hi, hin, this]

theorem Rels.seg_ {w : World} {ok : Bool → Nat → Prop} : ∀ {xs : List PV} {ys : List Value}, Rels w ok xs ys → ∀ {o n : Nat} {zs : List PV}, seg xs o n = some zs → Rels w ok zs ((ys.drop o).take n) ∧ ((ys.drop o).take n).length = n
  | [], ys, h, 0, 0, zs, hz => by simp only [seg, Option.some.injEq] at hz; subst hz; simp [Rels]
  | [], _, _, 0, n + 1, zs, hz => by simp [seg] at hz
  | [], _, _, o + 1, n, zs, hz => by simp [seg] at hz
  | x :: xs, ys, h, 0, 0, zs, hz => by simp only [seg, Option.some.injEq] at hz; subst hz; simp [Rels]
  | x :: xs, ys, h, 0, n + 1, zs, hz => by
    simp only [Rels] at h
    obtain ⟨y, us, rfl, hx, hxs⟩ := h
    simp only [seg] at hz
    cases hr : seg xs 0 n with
    | none => rw [hr] at hz; simp at hz
    | some r =>
      rw [hr] at hz
      simp only [Option.some.injEq] at hz
      subst hz
      have ih := Rels.seg_ hxs hr
      simp only [List.drop_zero] at ih ⊢
      refine ⟨?_, by simp [ih.2]⟩
      simp only [Rels]
      exact ⟨y, us.take n, by simp, hx, ih.1⟩
  | x :: xs, ys, h, o + 1, n, zs, hz => by
    simp only [Rels] at h
    obtain ⟨y, us, rfl, hx, hxs⟩ := h
    have hz' : seg xs o n = some zs := by cases n <;> simpa [seg] using hz
    simpa using Rels.seg_ hxs hz'

theorem y_load1 {x : Operand} {t ty : TypeId} {h o : Nat} {cs : List PV} {z : PV} [ht : TOne P t] (hx : evT E x = some (.ptr h o)) (hm : hk h H = some (.bx cs)) (hz : cs[o]? = some z) : Yl P (.load t x) ty E H (.p z) (.hd h) :=
  fun _ _ _ ρ _ w r => by
    have h0 := ev_rel r hx
    simp only [RelT] at h0
    obtain ⟨g, hg, e⟩ := h0
    have hb := r.heap h _ hm
    simp only [RelB] at hb
    obtain ⟨g', t', ys, hg', _, hh, hs, hone⟩ := hb
    rw [hg] at hg'
    simp only [Value.pointer.injEq, Option.some.injEq, Addr.mk.injEq, and_true] at hg'
    subst hg'
    obtain ⟨y, hy, hr⟩ := hs.get hz
    refine ⟨y, fun W hW _ _ _ _ => ?_, by simpa only [RelT] using hr⟩
    have hW' : W.heap[g]? = some (.cells ys.toArray t' (0, 0)) := by rw [hW g (by rw [hg]; rfl)]; exact hh
    have hc : W.cell? ⟨g, o, none⟩ = some y := by rw [cell_of_row W g o _ _ _ hW']; simpa using hy
    simp [execOp, e, Instr.loadAt, Instr.sureAddr, loadVar_one hc]

theorem y_loadA {x : Operand} {t ty : TypeId} {h o n : Nat} {cs zs : List PV} [ht : TAgg P t n] (hx : evT E x = some (.ptr h o)) (hm : hk h H = some (.bx cs)) (hz : seg cs o n = some zs) : Yl P (.load t x) ty E H (.p (.ag zs)) (.hd h) :=
  fun _ _ _ ρ _ w r => by
    have h0 := ev_rel r hx
    simp only [RelT] at h0
    obtain ⟨g, hg, e⟩ := h0
    have hb := r.heap h _ hm
    simp only [RelB] at hb
    obtain ⟨g', t', ys, hg', _, hh, hs, hone⟩ := hb
    rw [hg] at hg'
    simp only [Value.pointer.injEq, Option.some.injEq, Addr.mk.injEq, and_true] at hg'
    subst hg'
    obtain ⟨hr, hl⟩ := hs.seg_ hz
    refine ⟨.agg ((ys.drop o).take n).toArray, fun W hW _ _ _ _ => ?_, by simp only [RelT, Rel]; exact ⟨_, rfl, hr⟩⟩
    have hW' : W.heap[g]? = some (.cells ys.toArray t' (0, 0)) := by rw [hW g (by rw [hg]; rfl)]; exact hh
    have := loadVar_agg (P := P) (t := t) (n := n) (W := W) (a := ⟨g, o, none⟩) (cs := (ys.drop o).take n) hl (fun j v hj => by
      rw [Addr.add_lit, cell_of_row W g (o + j) _ _ _ hW']
      rw [List.getElem?_take] at hj
      split at hj
      · simpa using hj
      · cases hj)
    simp [execOp, e, Instr.loadAt, Instr.sureAddr, this]

theorem y_load_rc1 {x : Operand} {t ty : TypeId} {z : PV} [ht : TOne P t] (hx : evT E x = some (.rc z)) (h1 : isOne z = true) : Yl P (.load t x) ty E H (.p z) .im :=
  fun _ _ _ ρ _ w r => by
    have h0 := ev_rel r hx
    simp only [RelT] at h0
    obtain ⟨b, o, y, e, hok, hr, hc⟩ := h0
    refine ⟨y, fun W hW _ _ _ _ => ?_, by simpa only [RelT] using hr⟩
    have hc0 : W.cell? ⟨b, o, none⟩ = some y := by
      rw [World.cell?_of_block (w := w) (w' := W) (a := ⟨b, o, none⟩) (hW b hok)]
      have := hc 0 y (by simp [(cells_one hr h1).1])
      simpa using this
    simp [execOp, e, Instr.loadAt, Instr.sureAddr, loadVar_one hc0]

theorem y_load_rcA {x : Operand} {t ty : TypeId} {n : Nat} {cs : List PV} [ht : TAgg P t n] (hx : evT E x = some (.rc (.ag cs))) (hn : cs.length = n) : Yl P (.load t x) ty E H (.p (.ag cs)) .im :=
  fun _ _ _ ρ _ w r => by
    have h0 := ev_rel r hx
    simp only [RelT, Rel] at h0
    obtain ⟨b, o, y, e, hok, ⟨ys, rfl, hr⟩, hc⟩ := h0
    refine ⟨.agg ys.toArray, fun W hW _ _ _ _ => ?_, by simp only [RelT, Rel]; exact ⟨ys, rfl, hr⟩⟩
    have := loadVar_agg (P := P) (t := t) (n := n) (W := W) (a := ⟨b, o, none⟩) (cs := ys) (by rw [hr.length, hn]) (fun j v hj => by
      rw [Addr.add_lit, World.cell?_of_block (w := w) (w' := W) (a := ⟨b, o + j, none⟩) (hW b hok)]
      exact hc j v (by simpa [Value.cells] using hj))
    simp [execOp, e, Instr.loadAt, Instr.sureAddr, this]

/-- An element of a row of whole numbers of the call's own. -/
theorem y_load_vi {x : Operand} {t ty e : TypeId} {h : Nat} {n : Int} {k : IntKind} {l : List Int} [ht : TOne P t] (hx : evT E x = some (.vp h (n.toNat * 1))) (hm : hk h H = some (.vi e k l)) (h1 : n < l.length) (h0 : 0 ≤ n) : Yl P (.load t x) ty E H (.p (.v (.int k (rd l n)))) (.hd h) :=
  fun _ _ _ ρ _ w r => by
    have e0 := ev_rel r hx
    simp only [RelT] at e0
    obtain ⟨g, m, c, hg, e1⟩ := e0
    have hb := r.heap h _ hm
    simp only [RelB] at hb
    refine ⟨.int k (rd l n), fun W hW _ _ _ _ => ?_, by simp [RelT, Rel]⟩
    have hW' : W.ownsRow _ e 1 (ρ h) l.length (nums k l) := own_of_block hb.1 (fun b hb => hW b hb)
    have hlt : n.toNat < l.length := by omega
    have := hW'.cells (g := g) (by rw [hg]; rfl) n.toNat (.int k (rd l n)) (by simp [nums, rd, List.getD, hlt])
    rw [Addr.add_lit, Nat.zero_add] at this
    rw [Nat.mul_one] at e1
    simp [execOp, e1, Instr.loadAt, Instr.sureAddr, loadVar_one this]

theorem y_load_vs {x : Operand} {t ty e : TypeId} {h sz : Nat} {n : Int} {es : List PV} {cs : List PV} [ht : TAgg P t sz] (hx : evT E x = some (.vp h (n.toNat * sz))) (hm : hk h H = some (.vs e sz es)) (h1 : n < es.length) (h0 : 0 ≤ n) (hz : rdP es n = .ag cs) : Yl P (.load t x) ty E H (.p (.ag cs)) (.hd h) :=
  fun _ _ _ ρ _ w r => by
    have e0 := ev_rel r hx
    simp only [RelT] at e0
    obtain ⟨g, m, c, hg, e1⟩ := e0
    have hb := r.heap h _ hm
    simp only [RelB] at hb
    obtain ⟨ys, hr, hsz, ho, _⟩ := hb
    have hlt : n.toNat < es.length := by omega
    have hz' : es[n.toNat]? = some (.ag cs) := by rw [← hz]; simp [rdP, List.getD, hlt]
    obtain ⟨y, hy, hry⟩ := hr.get hz'
    simp only [Rel] at hry
    obtain ⟨us, rfl, hus⟩ := hry
    refine ⟨.agg us.toArray, fun W hW _ _ _ _ => ?_, by simp only [RelT, Rel]; exact ⟨us, rfl, hus⟩⟩
    have hW' : W.ownsRow _ e sz (ρ h) es.length (flat ys) := own_of_block ho (fun b hb => hW b hb)
    have := loadVar_agg (P := P) (t := t) (n := sz) (W := W) (a := ⟨g, n.toNat * sz, none⟩) (cs := us) (by simpa [Value.cells] using hsz _ (List.mem_of_getElem? hy)) (fun j v hj => by
      have h5 := hW'.cells (g := g) (by rw [hg]; rfl) (n.toNat * sz + j) v (flat_get hsz hy j v (by simpa [Value.cells] using hj))
      rw [Addr.add_lit, Nat.zero_add] at h5
      rw [Addr.add_lit]
      exact h5)
    simp [execOp, e1, Instr.loadAt, Instr.sureAddr, this]
end

/-! ### Operations that change something -/
section
variable {P : Program} {N : Nat} {E : Env} {H : Hp} {Q : Exit → Env → Hp → Prop} {ops : Array Oper} {rest : List Oper}

/-- What an operation does, if it is carried out now: it comes to an end; the state behind it is told; W: the handles whose blocks, or values, it may change. -/
def Eff (P : Program) (N : Nat) (dst : Option Tmp) (op : Op) (ty : TypeId) (E : Env) (H : Hp) (E' : Env) (H' : Hp) (W : List Nat) : Prop :=
  ∀ okA w0 ρ tmps w, Rep okA w0 N ρ E H tmps w → ∃ (n : Next) (y : Value) (ρ' : Nat → Value) (w' : World), (∀ pos after guard, (execOp (Act.eval ⟨tmps, []⟩) ⟨dst, op, ty, pos, after, guard⟩).run P w = .ok n w') ∧
    (n = .value y ∨ (n = .skip ∧ y = undef)) ∧ Rep okA w0 N ρ' E' H' (Act.put ⟨tmps, []⟩ dst y).tmps w' ∧
    (∀ b, b < w.heap.size → (∀ h ∈ W, ∀ m, hk h H = some m → blk (ρ h) ≠ some b) → w'.heap[b]? = w.heap[b]?) ∧ w.heap.size ≤ w'.heap.size ∧ (∀ h, h ∉ W → ρ' h = ρ h) ∧
    (∀ h m, hk h H' = some m → h ∉ W → ∃ m0, hk h H = some m0) ∧ (∀ h ∈ W, ∀ b, blk (ρ' h) = some b → w.heap.size ≤ b ∨ ∃ m0, hk h H = some m0 ∧ blk (ρ h) = some b)

theorem put_nil (tmps : Array Value) (dst : Option Tmp) (y : Value) : Act.put ⟨tmps, []⟩ dst y = ⟨(Act.put ⟨tmps, []⟩ dst y).tmps, []⟩ := by cases dst <;> rfl

theorem stepE {dst : Option Tmp} {op : Op} {ty : TypeId} {pos : String} {af : Array Edge} {E' : Env} {H' : Hp} {W : List Nat} (h : Eff P N dst op ty E H E' H' W) (k : TrL P N ops rest E' H' Q) :
    TrL P N ops (⟨dst, op, ty, pos, af, none⟩ :: rest) E H Q := by
  intro okA w0 ρ tmps w r
  obtain ⟨n, y, ρ', w', hrun, hn, hr, _⟩ := h okA w0 ρ tmps w r
  refine wpList_plain rfl fun K hK => ?_
  have := hrun pos af none
  simp only [Oper.wp, this]
  rcases hn with rfl | ⟨rfl, rfl⟩
  · simp only [Oper.upon]
    refine hK _ _ ?_
    rw [put_nil]
    exact k okA w0 ρ' _ w' hr
  · simp only [Oper.upon]
    refine hK _ _ ?_
    rw [put_nil]
    exact k okA w0 ρ' _ w' hr

theorem hao (w : World) (o : Obj) (b : Nat) (h : b < w.heap.size) : (w.alloc o).heap[b]? = w.heap[b]? := by
  show (w.heap.push o)[b]? = _
  rw [Array.getElem?_push, if_neg (by omega)]
theorem han (w : World) (o : Obj) : (w.alloc o).heap[w.heap.size]? = some o := by
  show (w.heap.push o)[_]? = _
  simp
theorem old_cons {h : Nat} {m : MB} {H : Hp} : ∀ h' m', hk h' ((h, m) :: H) = some m' → h' ∉ [h] → ∃ m0, hk h' H = some m0 := by
  intro h' m' h1 h2
  rcases hk_cons h1 with ⟨rfl, _⟩ | ⟨_, h3⟩
  · simp at h2
  · exact ⟨_, h3⟩
theorem below_alloc' (w0 w : World) (o : Obj) (h : w0.heap.size ≤ w.heap.size) : Below w0.heap.size w (w.alloc o) := (Below.refl _ _).alloc h o

theorem Rels.ones {w : World} {ok : Bool → Nat → Prop} : ∀ {xs : List PV} {ys : List Value}, Rels w ok xs ys → Av.ones xs = true → ∀ u ∈ ys, u.oneCell' = true
  | [], ys, h, _, u, hu => by simp only [Rels] at h; subst h; cases hu
  | x :: xs, ys, h, h1, u, hu => by
    simp only [Rels] at h
    obtain ⟨y, zs, rfl, hx, hxs⟩ := h
    simp only [Av.ones, Bool.and_eq_true] at h1
    rcases List.mem_cons.1 hu with rfl | hu
    · exact (cells_one hx h1.1).2
    · exact Rels.ones hxs h1.2 u hu

def cellsP : PV → List PV
  | .ag cs => cs
  | z => [z]
theorem cellsP_rel {w : World} {ok : Bool → Nat → Prop} {z : PV} {y : Value} (h : Rel w ok z y) (h1 : Av.ones (cellsP z) = true) : Rels w ok (cellsP z) y.cells.toList := by
  cases z with
  | ag cs => simp only [Rel] at h; obtain ⟨ys, rfl, hr⟩ := h; simpa [cellsP, Value.cells] using hr
  | v x => have h2 : isOne (.v x) = true := by simpa [cellsP, Av.ones] using h1
           rw [(cells_one h h2).1]; simp only [cellsP, Rels]; exact ⟨y, [], rfl, h, rfl⟩
  | si f k l => rw [(cells_one h rfl).1]; simp only [cellsP, Rels]; exact ⟨y, [], rfl, h, rfl⟩
  | ss f k l => rw [(cells_one h rfl).1]; simp only [cellsP, Rels]; exact ⟨y, [], rfl, h, rfl⟩
  | tp fs => simp [cellsP, Av.ones, isOne] at h1

/-- A new box. -/
theorem Rep.box {okA : Acc} {w0 : World} {ρ : Nat → Value} {tmps : Array Value} {w : World} (r : Rep okA w0 N ρ E H tmps w) {d : Nat} {cs : List PV} {ys : List Value} {t : TypeId} (hs : Rels w (okF okA w0.heap.size ρ H w.heap.size) cs ys) (h1 : ∀ u ∈ ys, u.oneCell' = true) (hd : hk d H = none) (hE : frE d E = true) (hp : pH d = false) :
    Rep okA w0 N (upd ρ d (.pointer (some ⟨w.heap.size, 0, none⟩))) E ((d, .bx cs) :: H) tmps (w.alloc (.cells ys.toArray t)) := by
  refine r.at_ (.of (below_alloc' w0 w _ r.below.size)) (fun b hb _ => hao w _ b hb) (fun b hb => .inl ?_) (.inr hE) (.inr hp) (fun hok => ?_)
  · simp only [blk, Option.some.injEq] at hb; omega
  · simp only [RelB]
    exact ⟨w.heap.size, t, ys, rfl, Nat.zero_le _, han w _, Rels.mono hok (fun f b hb => hao w _ b hb.1) cs ys hs, h1⟩
end

class TZero (P : Program) (t : TypeId) (cs : outParam (List PV)) : Prop where
  out : ∃ z, (P.info? t).bind (·.zero) = some z ∧ cs = z.cells.toList.map PV.v ∧ ∀ u ∈ z.cells.toList, u.oneCell' = true
class TSz (P : Program) (t : TypeId) (n : outParam Nat) : Prop where
  out : (P.info? t).map (·.size) = some n
class TPl (P : Program) (t : TypeId) (cs : outParam (List PV)) (pl : outParam (List (Nat × Nat))) : Prop where
  out : ∃ z : List Value, cs = z.map PV.v ∧ (∀ u ∈ z, u.oneCell' = true) ∧ ∀ parts, P.built t parts = Instr.fill (fun i => pl[i]?) z.toArray parts

def setS : List PV → Nat → List PV → Option (List PV)
  | cs, 0, [] => some cs
  | [], _, _ => none
  | _ :: cs, 0, z :: zs => match setS cs 0 zs with
    | some r => some (z :: r)
    | none => none
  | c :: cs, o + 1, zs => match setS cs o zs with
    | some r => some (c :: r)
    | none => none

theorem rels_exact {w : World} {ok : Bool → Nat → Prop} : ∀ (ys : List Value), Rels w ok (ys.map PV.v) ys
  | [] => by simp [Rels]
  | y :: ys => by simp only [List.map_cons, Rels]; exact ⟨y, ys, rfl, rfl, rels_exact ys⟩

theorem setS_rel {w : World} {ok : Bool → Nat → Prop} : ∀ {cs : List PV} {ys : List Value} {o : Nat} {zs : List PV} {us : List Value} {r : List PV}, Rels w ok cs ys → Rels w ok zs us → setS cs o zs = some r →
    Rels w ok r (ys.take o ++ us ++ ys.drop (o + us.length)) ∧ o + us.length ≤ ys.length
  | cs, ys, 0, [], us, r, h, hz, hs => by
    have : setS cs 0 [] = some cs := by cases cs <;> rfl
    rw [this] at hs
    simp only [Option.some.injEq] at hs
    simp only [Rels] at hz
    subst hs
    subst hz
    simpa using h
  | [], ys, 0, z :: zs, us, r, h, hz, hs => by simp [setS] at hs
  | [], ys, o + 1, zs, us, r, h, hz, hs => by cases zs <;> simp [setS] at hs
  | c :: cs, ys, 0, z :: zs, us, r, h, hz, hs => by
    simp only [setS] at hs
    simp only [Rels] at h hz
    obtain ⟨y, ys', rfl, hc, hcs⟩ := h
    obtain ⟨u, us', rfl, hu, hus⟩ := hz
    cases hr : setS cs 0 zs with
    | none => rw [hr] at hs; simp at hs
    | some r' =>
      rw [hr] at hs
      simp only [Option.some.injEq] at hs
      subst hs
      have ih := setS_rel hcs hus hr
      simp only [Nat.zero_add, List.take_zero, List.nil_append] at ih ⊢
      refine ⟨?_, by simp only [List.length_cons]; omega⟩
      simp only [Rels]
      exact ⟨u, us' ++ ys'.drop us'.length, by simp, hu, ih.1⟩
  | c :: cs, ys, o + 1, zs, us, r, h, hz, hs => by
    simp only [Rels] at h
    obtain ⟨y, ys', rfl, hc, hcs⟩ := h
    have hs' : (match setS cs o zs with | some r => some (c :: r) | none => none) = some r := by cases zs <;> simpa [setS] using hs
    cases hr : setS cs o zs with
    | none => rw [hr] at hs'; simp at hs'
    | some r' =>
      rw [hr] at hs'
      simp only [Option.some.injEq] at hs'
      subst hs'
      have ih := setS_rel hcs hz hr
      refine ⟨?_, by simp only [List.length_cons]; omega⟩
      simp only [Rels]
      refine ⟨y, ys'.take o ++ us ++ ys'.drop (o + us.length), ?_, hc, ih.1⟩
      rw [show o + 1 + us.length = (o + us.length) + 1 by omega]
      simp

section
variable {P : Program} {N : Nat} {E : Env} {H : Hp} {Q : Exit → Env → Hp → Prop} {ops : Array Oper} {rest : List Oper}

theorem e_box {d : Nat} {t ty : TypeId} {x : Operand} {z : PV} {cs : List PV} (hx : evT E x = some (.p z)) (hc : cellsP z = cs) (h1 : Av.ones cs = true) (hd : hk d H = none) (hE : frE d E = true) (hN : Nat.blt d N = true) :
    Eff P N (some d) (.box t x) ty E H ((d, .ptr d 0) :: E) ((d, .bx cs) :: H) [d] := by
  intro okA w0 ρ tmps w r
  subst hc
  have h0 := ev_rel r hx
  simp only [RelT] at h0
  have hs := cellsP_rel h0 h1
  have hr := r.box (t := t) hs (hs.ones h1) hd hE (pH_lt r hN)
  refine ⟨.value (.pointer (some ⟨w.heap.size, 0, none⟩)), _, _, _, fun _ _ _ => ?_, .inl rfl, hr.put (Nat.le_of_ble_eq_true hN) (x := .ptr d 0) ?_, fun b hb _ => hao w _ b hb, by simp, fun h hh => upd_other (by simpa using hh), old_cons, fun h hh b hb => .inl (by simp only [List.mem_singleton] at hh; subst hh; rw [upd_same] at hb; simp only [blk, Option.some.injEq] at hb; omega)⟩
  · simp [execOp, Instr.box, newVar, newRow]
  · simp only [RelT, upd_same]; exact ⟨_, rfl, rfl⟩

theorem e_alloc {d : Nat} {t ty : TypeId} {cs : List PV} [hz : TZero P t cs] (hd : hk d H = none) (hE : frE d E = true) (hN : Nat.blt d N = true) :
    Eff P N (some d) (.alloc t) ty E H ((d, .ptr d 0) :: E) ((d, .bx cs) :: H) [d] := by
  intro okA w0 ρ tmps w r
  obtain ⟨z, hz1, rfl, hz3⟩ := hz.out
  obtain ⟨i, hi, hiz⟩ := Option.bind_eq_some_iff.1 hz1
  have hr := r.box (t := t) (rels_exact z.cells.toList) hz3 hd hE (pH_lt r hN)
  refine ⟨.value (.pointer (some ⟨w.heap.size, 0, none⟩)), _, _, _, fun _ _ _ => ?_, .inl rfl, hr.put (Nat.le_of_ble_eq_true hN) (x := .ptr d 0) ?_, fun b hb _ => hao w _ b hb, by simp, fun h hh => upd_other (by simpa using hh), old_cons, fun h hh b hb => .inl (by simp only [List.mem_singleton] at hh; subst hh; rw [upd_same] at hb; simp only [blk, Option.some.injEq] at hb; omega)⟩
  · simp [execOp, Instr.alloc, zeroValue, typeInfo, hi, hiz, newVar, newRow]
  · simp only [RelT, upd_same]; exact ⟨_, rfl, rfl⟩

theorem below_setRow (okA : Acc) (n : Nat) (w : World) (g : Nat) (cs : Array Value) {p : Prop} (h : n ≤ g ∨ (p ∧ okA.wr g)) : Frm okA n w (w.setRow g cs) :=
  ⟨rfl, rfl, rfl, by simp, fun k hk hw => setRow_other w g k cs (fun e => by subst e; rcases h with h | h; omega; exact hw h.2)⟩

theorem e_store {t ty : TypeId} {a v : Operand} {h o n : Nat} {z : PV} {cs zs r' : List PV} [hn : TSz P t n] (ha : evT E a = some (.ptr h o)) (hv : evT E v = some (.p z)) (hc : cellsP z = zs) (h1 : Av.ones zs = true) (hl : zs.length = n)
    (hm : hk h H = some (.bx cs)) (hs : setS cs o zs = some r') : Eff P N none (.store t a v) ty E H E ((h, .bx r') :: H) [h] := by
  intro okA w0 ρ tmps w r
  subst hc
  obtain ⟨i, hi, hin⟩ := Option.map_eq_some_iff.1 hn.out
  have h0 := ev_rel r ha
  simp only [RelT] at h0
  obtain ⟨g, hg, ea⟩ := h0
  have hv0 := ev_rel r hv
  simp only [RelT] at hv0
  have hzs := cellsP_rel hv0 h1
  have hb := r.heap h _ hm
  simp only [RelB] at hb
  obtain ⟨g', t', ys, hg', hB, hh, hys, hone⟩ := hb
  rw [hg] at hg'
  simp only [Value.pointer.injEq, Option.some.injEq, Addr.mk.injEq, and_true] at hg'
  subst hg'
  obtain ⟨hr1, hr2⟩ := setS_rel hys hzs hs
  generalize hu : Act.eval ⟨tmps, []⟩ v = u at hzs hr1 hr2 hv0
  have hrun := run_storeCells_at (P := P) g o t' u.cells.toList 0 ys.toArray w hh (by simpa using hr2) (hzs.ones h1)
  simp only [Nat.add_zero] at hrun
  have hsz : u.cells.size = i.size := by
    have := hzs.length
    simp at this
    omega
  refine ⟨.skip, undef, upd ρ h (ρ h), w.setRow g (List.take o ys ++ u.cells.toList ++ List.drop (o + u.cells.toList.length) ys).toArray, fun _ _ _ => ?_, .inr ⟨rfl, rfl⟩, ?_, fun b _ hb => ?_, ?_, fun k _ => ?_, old_cons, fun h' hh b hb => .inr (by simp only [List.mem_singleton] at hh; subst hh; rw [upd_same] at hb; exact ⟨_, hm, hb⟩)⟩
  · simp only [execOp, ea, hu, Instr.storeAt, Instr.sureAddr, storeVar, sizeOf, typeInfo, Sem.run_bind, run_program, Result.andThen_ok, hi, Sem.run_pure, Sem.run_ite]
    rw [if_neg (by simpa using hsz)]
    simp only [Result.andThen_ok, hrun]
  · refine Rep.at_ r (h := h) (y := ρ h) (m := .bx r') ?_ (fun b hb hne => ?_) (fun b hb => .inr ⟨_, hm, hb⟩) (.inl rfl) (.inl rfl) (fun hok => ?_)
    · exact below_setRow okA _ w g _ (r.own h _ g hm (by rw [hg]; rfl))
    · exact setRow_other w g b _ (fun e => hne _ hm (by rw [hg]; simp [blk, e]))
    · simp only [RelB]
      refine ⟨g, t', _, hg, Nat.zero_le _, setRow_heap w g _ _ t' _ hh, ?_, ?_⟩
      · simpa using Rels.mono hok (fun f b hb => setRow_other w g b _ (fun e => hb.2.1 h _ hm (by rw [hg]; simp [blk, e]))) r' _ hr1
      · intro x hx
        simp only [List.mem_append] at hx
        rcases hx with (hx | hx) | hx
        · exact hone x (by simpa using List.mem_of_mem_take hx)
        · exact hzs.ones h1 x hx
        · exact hone x (by simpa using List.mem_of_mem_drop hx)
  · exact setRow_other w g b _ (fun e => hb h (by simp) _ hm (by rw [hg]; simp [blk, e]))
  · simp
  · by_cases hk : k = h
    · subst hk; exact upd_same
    · exact upd_other hk

/-- An element of a row of whole numbers of the call's own is written. -/
theorem e_store_vi {t ty e : TypeId} {a v : Operand} {h : Nat} {n : Int} {k : IntKind} {l : List Int} {x : Int} [hn : TSz P t 1] (ha : evT E a = some (.vp h (n.toNat * 1))) (hv : evT E v = some (.p (.v (.int k x)))) (hm : hk h H = some (.vi e k l)) (h0 : 0 ≤ n) (h1 : n < l.length) :
    Eff P N none (.store t a v) ty E H E ((h, .vi e k (l.set n.toNat x)) :: H) [h] := by
  intro okA w0 ρ tmps w r
  obtain ⟨i, hi, hin⟩ := Option.map_eq_some_iff.1 hn.out
  have e0 := ev_rel r ha
  simp only [RelT] at e0
  obtain ⟨g, m, c, hg, ea⟩ := e0
  rw [Nat.mul_one] at ea
  have hb := r.heap h _ hm
  simp only [RelB] at hb
  obtain ⟨ho, hlim⟩ := hb
  have hlt : n.toNat < l.length := by omega
  have hcell := ho.cells (g := g) (by rw [hg]; rfl) n.toNat (.int k (l[n.toNat])) (by simp [nums, hlt])
  rw [Addr.add_lit, Nat.zero_add] at hcell
  have hB := r.own h _ g hm (by rw [hg]; rfl)
  have hm' : m = l.length := by
    rcases ho.2 with ⟨e2, _⟩ | ⟨g2, cap, cur, e2, _⟩
    · rw [hg] at e2; simp at e2
    · rw [hg] at e2; simp at e2; exact e2.2.1
  subst hm'
  rw [hg] at ho
  obtain ⟨hst1, hst2⟩ := ho.stored n.toNat (.int k x)
  have hfz : w.frozen? ⟨g, n.toNat, none⟩ = false := by
    rcases ho.2 with ⟨e2, _⟩ | ⟨g2, cap, cur, e2, _, hh, _⟩
    · simp at e2
    · simp at e2; obtain ⟨rfl, _⟩ := e2; simp [World.frozen?, hh]
  refine ⟨.skip, undef, upd ρ h (ρ h), w.setCell ⟨g, n.toNat, none⟩ (.int k x), fun _ _ _ => ?_, .inr ⟨rfl, rfl⟩, ?_, fun b _ hb => ?_, ?_, fun k' _ => ?_, old_cons, fun h' hh b hb => .inr (by simp only [List.mem_singleton] at hh; subst hh; rw [upd_same] at hb; exact ⟨_, hm, hb⟩)⟩
  · simp [execOp, ea, ev_v r hv, Instr.storeAt, Instr.sureAddr, storeVar, sizeOf, typeInfo, hi, hin, Value.cells, storeCells, run_store_int, stored, hcell, hfz, Addr.add_lit]
  · refine Rep.at_ r (h := h) (y := ρ h) (m := .vi e k (l.set n.toNat x)) ?_ (fun b hb hne => ?_) (fun b hb => .inr ⟨_, hm, hb⟩) (.inl rfl) (.inl rfl) (fun hok => ?_)
    · have h2 := (Below.refl 0 w).setCell (p := ⟨g, n.toNat, none⟩) (Nat.zero_le _) (.int k x)
      exact ⟨h2.os, h2.tape, h2.output, h2.size, fun b hb hw => Below.heap_setCell w _ _ b (fun e => by have e' : b = g := e; subst e'; rcases hB with h3 | h3; omega; exact hw h3.2)⟩
    · exact Below.heap_setCell w _ _ b (fun e => hne _ hm (by rw [hg]; simp [blk, e]))
    · simp only [RelB, List.length_set]
      refine ⟨?_, hlim⟩
      rw [hg]
      have : nums k (l.set n.toNat x) = (nums k l).set n.toNat (.int k x) := by simp [nums, List.map_set]
      rw [this]
      exact hst1
  · exact Below.heap_setCell w _ _ b (fun e => hb h (by simp) _ hm (by rw [hg]; simp [blk, e]))
  · simp
  · by_cases hk : k' = h
    · subst hk; exact upd_same
    · exact upd_other hk

/-! build -/
def fillP (pl : List (Nat × Nat)) (cs : List PV) : List (Nat × PV) → Option (List PV)
  | [] => some cs
  | (i, z) :: r => match pl[i]? with
    | some (off, size) => bif Nat.beq (cellsP z).length size then (match setS cs off (cellsP z) with
      | some cs' => fillP pl cs' r
      | none => none) else none
    | none => none

theorem foldl_set : ∀ (us : List Value) (k : Nat) (cells : Array Value) (off : Nat), off + k + us.length ≤ cells.size →
    ((us.zipIdx k).foldl (fun (cs : Array Value) (p : Value × Nat) => cs.setIfInBounds (off + p.2) p.1) cells).toList = cells.toList.take (off + k) ++ us ++ cells.toList.drop (off + k + us.length)
  | [], k, cells, off, _ => by simp
  | u :: us, k, cells, off, h => by
    simp only [List.length_cons] at h
    rw [List.zipIdx_cons, List.foldl_cons, foldl_set us (k + 1) _ off (by simp; omega)]
    simp only [Array.toList_setIfInBounds]
    apply List.ext_getElem?
    intro j
    simp only [List.getElem?_append, List.length_take, List.length_set, Array.length_toList, List.getElem?_take, List.getElem?_drop, List.length_append, List.length_cons, List.getElem?_set]
    have h1 : min (off + (k + 1)) cells.size = off + k + 1 := by omega
    have h2 : min (off + k) cells.size = off + k := by omega
    rw [h1, h2]
    by_cases hj : j < off + k
    · rw [if_pos (by omega), if_pos (by omega), if_pos (by omega), if_neg (by omega), if_pos (by omega), if_pos hj, if_pos hj]
    · by_cases hj2 : j = off + k
      · subst hj2
        rw [if_pos (by omega), if_pos (by omega), if_pos (by omega), if_pos rfl, if_pos (by omega), if_pos (by omega), if_neg (by omega)]
        simp
      · by_cases hj3 : j < off + k + 1 + us.length
        · rw [if_pos (by omega), if_neg (by omega), if_pos (by omega), if_neg (by omega), show j - (off + k) = (j - (off + k + 1)) + 1 by omega]
          simp
        · rw [if_neg (by omega), if_neg (by omega), if_neg (by omega), show off + (k + 1) + us.length + (j - (off + k + 1 + us.length)) = off + k + (us.length + 1) + (j - (off + k + (us.length + 1))) by omega]

theorem fillP_rel {w : World} {ok : Bool → Nat → Prop} {pl : List (Nat × Nat)} : ∀ {parts : List (Nat × PV)} {cs : List PV} {ys : List Value} {us : List (Nat × Value)} {r : List PV}, Rels w ok cs ys → us.map Prod.fst = parts.map Prod.fst → Rels w ok (parts.map Prod.snd) (us.map Prod.snd) →
    (∀ p ∈ parts, Av.ones (cellsP p.2) = true) → fillP pl cs parts = some r → ∃ zs, Instr.fill (fun i => pl[i]?) ys.toArray us = some zs.toArray ∧ Rels w ok r zs
  | [], cs, ys, us, r, h, hi, hu, h1, hf => by
    simp only [fillP, Option.some.injEq] at hf
    subst hf
    have : us = [] := by simpa using hi
    subst this
    exact ⟨ys, rfl, h⟩
  | (i, z) :: parts, cs, ys, us, r, h, hi, hu, h1, hf => by
    cases us with
    | nil => simp at hi
    | cons q us =>
      obtain ⟨i', u⟩ := q
      simp only [List.map_cons, List.cons.injEq] at hi
      obtain ⟨rfl, hi⟩ := hi
      simp only [List.map_cons, Rels] at hu
      obtain ⟨y, zs, e, hz, hzs⟩ := hu
      simp only [List.cons.injEq] at e
      obtain ⟨rfl, rfl⟩ := e
      simp only [fillP] at hf
      cases hp : pl[i']? with
      | none => rw [hp] at hf; simp at hf
      | some os =>
        obtain ⟨off, size⟩ := os
        rw [hp] at hf
        simp only at hf
        cases hb : Nat.beq (cellsP z).length size with
        | false => rw [hb] at hf; simp at hf
        | true =>
          rw [hb] at hf
          simp only [cond_true] at hf
          have hsz := Nat.eq_of_beq_eq_true hb
          cases hss : setS cs off (cellsP z) with
          | none => rw [hss] at hf; simp at hf
          | some cs' =>
            rw [hss] at hf
            simp only at hf
            have hcz := cellsP_rel hz (h1 (i', z) (by simp))
            obtain ⟨hr1, hr2⟩ := setS_rel h hcz hss
            have hlen := hcz.length
            simp only [Array.length_toList] at hlen hr2
            obtain ⟨zs', hz1, hz2⟩ := fillP_rel hr1 hi hzs (fun p hp => h1 p (by simp [hp])) hf
            refine ⟨zs', ?_, hz2⟩
            have hfold := foldl_set u.cells.toList 0 ys.toArray off (by simpa using hr2)
            simp only [Instr.fill, hp]
            rw [if_neg (by simp; omega)]
            rw [← hz1]
            congr 1
            rw [← Array.foldl_toList, Array.toList_zipIdx]
            apply Array.ext'
            rw [hfold]
            simp
end

/-! ### Contracts -/
/-- Function f, called with values that the abstract values args tell (their memory: such as stands, and is allowed), returns a value that r tells: memory of the arguments, or new; nothing that stood has changed. -/
def Con (P : Program) (f : FuncId) (args : List PV) (r : PV) : Prop :=
  ∀ (okA : Nat → Prop) (w : World) (vs : List Value), Rels w (fun _ b => b < w.heap.size ∧ okA b) args vs →
    Calls P f vs.toArray w fun e w' => ∃ y, e = .returned y ∧ Rel w' (fun t b => b < w'.heap.size ∧ (w.heap.size ≤ b ∨ (t = false ∧ okA b))) r y ∧ Below w.heap.size w w'

mutual
def noT : PV → Bool
  | .v _ => true
  | .si f _ _ => !f
  | .ss f _ es => !f && noTs es
  | .ag cs => noTs cs
  | .tp fs => noTs fs
def noTs : List PV → Bool
  | [] => true
  | x :: xs => noT x && noTs xs
end

mutual
theorem Rel.untag {w : World} {ok ok' : Bool → Nat → Prop} (h1 : ∀ b, ok false b → ok' false b) : ∀ (x : PV) (y : Value), noT x = true → Rel w ok x y → Rel w ok' x y
  | .v x, y, _, h => by simpa only [Rel] using h
  | .si f k l, y, ht, h => by
    simp only [noT, Bool.not_eq_true'] at ht
    subst ht
    simp only [Rel] at h ⊢
    obtain ⟨A, c, e, hc, hm, hl, hcell⟩ := h
    refine ⟨A, c, e, hc, hm, hl, fun hp => ?_⟩
    obtain ⟨b, o, hA, hok, hx⟩ := hcell hp
    exact ⟨b, o, hA, ⟨h1 _ hok.1, fun h => by cases h⟩, hx⟩
  | .ss f sz es, y, ht, h => by
    simp only [noT, Bool.and_eq_true, Bool.not_eq_true'] at ht
    obtain ⟨rfl, ht⟩ := ht
    simp only [Rel] at h ⊢
    obtain ⟨A, c, ys, e, hc, hm, hl, hr, hs, hcell⟩ := h
    refine ⟨A, c, ys, e, hc, hm, hl, Rels.untag h1 es ys ht hr, hs, fun hp => ?_⟩
    obtain ⟨b, o, hA, hok, hx⟩ := hcell hp
    exact ⟨b, o, hA, ⟨h1 _ hok.1, fun h => by cases h⟩, hx⟩
  | .ag cs, y, ht, h => by
    simp only [noT] at ht
    simp only [Rel] at h ⊢
    obtain ⟨ys, e, hr⟩ := h
    exact ⟨ys, e, Rels.untag h1 cs ys ht hr⟩
  | .tp fs, y, ht, h => by
    simp only [noT] at ht
    simp only [Rel] at h ⊢
    obtain ⟨ys, e, hr⟩ := h
    exact ⟨ys, e, Rels.untag h1 fs ys ht hr⟩
theorem Rels.untag {w : World} {ok ok' : Bool → Nat → Prop} (h1 : ∀ b, ok false b → ok' false b) : ∀ (xs : List PV) (ys : List Value), noTs xs = true → Rels w ok xs ys → Rels w ok' xs ys
  | [], ys, _, h => by simpa only [Rels] using h
  | x :: xs, ys, ht, h => by
    simp only [noTs, Bool.and_eq_true] at ht
    simp only [Rels] at h ⊢
    obtain ⟨y, zs, e, hx, hxs⟩ := h
    exact ⟨y, zs, e, Rel.untag h1 x y ht.1 hx, Rels.untag h1 xs zs ht.2 hxs⟩
end

/-- What a result variable holds at the end. -/
inductive Res1 (P : Program) (E : Env) (H : Hp) : ResultVar → PV → Prop
  | tmp {t : Tmp} {x : PV} (h : lk t E = some (.p x)) : Res1 P E H (.tmp t) x
  | vi {t : Tmp} {h : Nat} {e : TypeId} {k : IntKind} {l : List Int} (h1 : lk t E = some (.vec h)) (h2 : hk h H = some (.vi e k l)) (h3 : pH h = false) : Res1 P E H (.tmp t) (.si true k l)
  | vs {t : Tmp} {h : Nat} {e : TypeId} {sz : Nat} {es : List PV} (h1 : lk t E = some (.vec h)) (h2 : hk h H = some (.vs e sz es)) (h3 : pH h = false) : Res1 P E H (.tmp t) (.ss true sz es)
  | one {a : Tmp} {h : Nat} {t : TypeId} {cs : List PV} {x : PV} (h1 : lk a E = some (.ptr h 0)) (h2 : hk h H = some (.bx cs)) (h3 : cs[0]? = some x) [ht : TOne P t] : Res1 P E H (.cell a t) x
  | agg {a : Tmp} {h n : Nat} {t : TypeId} {cs zs : List PV} (h1 : lk a E = some (.ptr h 0)) (h2 : hk h H = some (.bx cs)) [ht : TAgg P t n] (h3 : seg cs 0 n = some zs) : Res1 P E H (.cell a t) (.ag zs)
inductive ResL (P : Program) (E : Env) (H : Hp) : List ResultVar → List PV → Prop
  | nil : ResL P E H [] []
  | cons {r : ResultVar} {x : PV} {rs : List ResultVar} {xs : List PV} (h : Res1 P E H r x) (hs : ResL P E H rs xs) : ResL P E H (r :: rs) (x :: xs)

def tup : List PV → PV
  | [x] => x
  | xs => .tp xs

/-- At an end the results are those that r tells. -/
def Fin (P : Program) (rs : List ResultVar) (r : PV) : Exit → Env → Hp → Prop := fun e E H =>
  (e = .normal ∨ e = .ret) ∧ ∃ xs, ResL P E H rs xs ∧ Le (tup xs) r

def argsE : Nat → List PV → Env
  | _, [] => []
  | i, x :: xs => (i, .p x) :: argsE (i + 1) xs

theorem argsE_lk : ∀ {xs : List PV} {i j : Nat} {x : TV}, lk j (argsE i xs) = some x → i ≤ j ∧ ∃ z, xs[j - i]? = some z ∧ x = .p z
  | [], i, j, x, h => by simp [argsE, lk] at h
  | z :: zs, i, j, x, h => by
    simp only [argsE, lk] at h
    cases hb : Nat.beq j i with
    | true =>
      rw [hb] at h
      simp only [cond_true, Option.some.injEq] at h
      have := Nat.eq_of_beq_eq_true hb
      subst this
      exact ⟨Nat.le_refl _, z, by simp, h.symm⟩
    | false =>
      rw [hb] at h
      simp only [cond_false] at h
      obtain ⟨h1, u, h2, h3⟩ := argsE_lk h
      refine ⟨by omega, u, ?_, h3⟩
      rw [show j - i = (j - (i + 1)) + 1 by omega]
      simpa using h2

theorem seal_vi {w : World} {ok : Bool → Nat → Prop} {B : Nat} {e : TypeId} {k : IntKind} {l : List Int} {y : Value} (h : w.ownsRow B e 1 y l.length (nums k l)) (hl : l.length < lim) (hok : ∀ b, blk y = some b → ok true b) : Rel w ok (.si true k l) y := by
  simp only [Rel]
  rcases h.2 with ⟨rfl, h3⟩ | ⟨g, cap, cur, rfl, hB, hh, hn, hm, _⟩
  · exact ⟨none, 0, by rw [h3], by omega, by simp [maxLen], hl, fun hp => by omega⟩
  · refine ⟨_, cap, rfl, hn, hm, hl, fun _ => ⟨g, 0, rfl, ⟨hok g rfl, fun _ => ⟨_, _, hh⟩⟩, fun j x hj => ?_⟩⟩
    have := h.cells (g := g) rfl j (.int k x) (by simp [nums, hj])
    rwa [Addr.add_lit] at this

theorem seal_vs {w : World} {ok : Bool → Nat → Prop} {B sz : Nat} {e : TypeId} {es : List PV} {ys : List Value} {y : Value} (hr : Rels w ok es ys) (hs : ∀ z ∈ ys, z.cells.size = sz) (h : w.ownsRow B e sz y es.length (flat ys)) (hl : es.length < lim) (hok : ∀ b, blk y = some b → ok true b) : Rel w ok (.ss true sz es) y := by
  simp only [Rel]
  rcases h.2 with ⟨rfl, h3⟩ | ⟨g, cap, cur, rfl, hB, hh, hn, hm, _⟩
  · exact ⟨none, 0, ys, by rw [h3], by omega, by simp [maxLen], hl, hr, hs, fun hp => by omega⟩
  · refine ⟨_, cap, ys, rfl, hn, hm, hl, hr, hs, fun _ => ⟨g, 0, rfl, ⟨hok g rfl, fun _ => ⟨_, _, hh⟩⟩, fun j x hj => ?_⟩⟩
    have := h.cells (g := g) rfl j x hj
    rwa [Addr.add_lit] at this

section
variable {P : Program} {N : Nat} {E : Env} {H : Hp} {Q : Exit → Env → Hp → Prop} {ops : Array Oper} {rest : List Oper}

def resF (tmps : Array Value) : ResultVar → Sem Value
  | .tmp t => pure (tmps.getD t undef)
  | .cell a t => do loadVar t (← asAddr (tmps.getD a undef))

theorem Res1.run {okA : Acc} {w0 : World} {ρ : Nat → Value} {tmps : Array Value} {w : World} (r : Rep okA w0 N ρ E H tmps w) {rv : ResultVar} {x : PV} (h : Res1 P E H rv x) :
    ∃ y, (resF tmps rv).run P w = .ok y w ∧ Rel w (fun f b => b < w.heap.size ∧ (w0.heap.size ≤ b ∨ (f = false ∧ okA.rd b))) x y := by
  have hmono : ∀ x y, Rel w (okF okA w0.heap.size ρ H w.heap.size) x y → Rel w (fun f b => b < w.heap.size ∧ (w0.heap.size ≤ b ∨ (f = false ∧ okA.rd b))) x y := fun x y h => Rel.mono (fun f b hb => ⟨hb.1, hb.2.2⟩) (fun _ _ _ => rfl) x y h
  cases h with
  | tmp h =>
    obtain ⟨y, hy, hr⟩ := r.env _ _ h
    simp only [RelT] at hr
    exact ⟨y, by simp [resF, hy], hmono _ _ hr⟩
  | vi h1 h2 hp =>
    obtain ⟨y, hy, hr⟩ := r.env _ _ h1
    simp only [RelT] at hr
    have hb := r.heap _ _ h2
    have hbd : ∀ b, blk (ρ _) = some b → w0.heap.size ≤ b ∧ b < w.heap.size := fun b hb' => ⟨(r.own _ _ b h2 hb').elim id (fun h => by rw [hp] at h; cases h.1), (hb.bounds (b := b) hb').2⟩
    simp only [RelB] at hb
    subst hr
    exact ⟨_, by simp [resF, hy], seal_vi hb.1 hb.2 (fun b hb' => ⟨(hbd b hb').2, .inl (hbd b hb').1⟩)⟩
  | vs h1 h2 hp =>
    obtain ⟨y, hy, hr⟩ := r.env _ _ h1
    simp only [RelT] at hr
    have hb := r.heap _ _ h2
    have hbd : ∀ b, blk (ρ _) = some b → w0.heap.size ≤ b ∧ b < w.heap.size := fun b hb' => ⟨(r.own _ _ b h2 hb').elim id (fun h => by rw [hp] at h; cases h.1), (hb.bounds (b := b) hb').2⟩
    simp only [RelB] at hb
    subst hr
    obtain ⟨ys, h3, h4, h5, _, h6⟩ := hb
    exact ⟨_, by simp [resF, hy], seal_vs (Rels.mono (fun f b hb => ⟨hb.1, hb.2.2⟩) (fun _ _ _ => rfl) _ _ h3) h4 h5 h6 (fun b hb' => ⟨(hbd b hb').2, .inl (hbd b hb').1⟩)⟩
  | one h1 h2 h3 =>
    obtain ⟨y, hy, hr⟩ := r.env _ _ h1
    simp only [RelT] at hr
    obtain ⟨g, hg, rfl⟩ := hr
    have hb := r.heap _ _ h2
    simp only [RelB] at hb
    obtain ⟨g', t', ys, hg', _, hh, hs, hone⟩ := hb
    rw [hg] at hg'
    simp only [Value.pointer.injEq, Option.some.injEq, Addr.mk.injEq, and_true] at hg'
    subst hg'
    obtain ⟨u, hu, hru⟩ := hs.get h3
    have hc : w.cell? ⟨g, 0, none⟩ = some u := by rw [cell_of_row w g 0 _ _ _ hh]; simpa using hu
    exact ⟨u, by simp [resF, hy, asAddr, loadVar_one hc], hmono _ _ hru⟩
  | @agg a h n t cs zs h1 h2 ht h3 =>
    obtain ⟨y, hy, hr⟩ := r.env _ _ h1
    simp only [RelT] at hr
    obtain ⟨g, hg, rfl⟩ := hr
    have hb := r.heap _ _ h2
    simp only [RelB] at hb
    obtain ⟨g', t', ys, hg', _, hh, hs, hone⟩ := hb
    rw [hg] at hg'
    simp only [Value.pointer.injEq, Option.some.injEq, Addr.mk.injEq, and_true] at hg'
    subst hg'
    obtain ⟨hru, hl⟩ := hs.seg_ h3
    have := loadVar_agg (P := P) (t := t) (n := n) (W := w) (a := ⟨g, 0, none⟩) hl (fun j v hj => by
      rw [Addr.add_lit, cell_of_row w g (0 + j) _ _ _ hh]
      rw [List.getElem?_take] at hj
      split at hj
      · simpa using hj
      · cases hj)
    exact ⟨_, by simp [resF, hy, asAddr]; exact this, hmono (.ag _) _ (by simp only [Rel]; exact ⟨_, rfl, hru⟩)⟩

theorem ResL.run {okA : Acc} {w0 : World} {ρ : Nat → Value} {tmps : Array Value} {w : World} (r : Rep okA w0 N ρ E H tmps w) : ∀ {rs : List ResultVar} {xs : List PV}, ResL P E H rs xs →
    ∃ ys, (rs.mapM (resF tmps)).run P w = .ok ys w ∧ Rels w (fun f b => b < w.heap.size ∧ (w0.heap.size ≤ b ∨ (f = false ∧ okA.rd b))) xs ys
  | _, _, .nil => ⟨[], by simp, by simp only [Rels]⟩
  | _, _, .cons (r := rv) h hs => by
    obtain ⟨y, hy, hr⟩ := h.run r
    obtain ⟨ys, hys, hrs⟩ := ResL.run r hs
    refine ⟨y :: ys, ?_, by simp only [Rels]; exact ⟨y, ys, rfl, hr, hrs⟩⟩
    rw [List.mapM_cons]
    simp only [Sem.run_bind, hy, hys, Result.andThen_ok, Sem.run_pure]

theorem con_of {f : FuncId} {fn : Func} {c : Code} {args : List PV} {r : PV} {rs : List ResultVar} (hf : P.funcs[f]? = some fn) (hb : fn.body = some c) (hN : fn.ntmps = N) (hrs : fn.results = rs.toArray) (ht : noTs args = true) (ha : (Nat.ble args.length N && Nat.ble N 1000000) = true)
    (h : Tr P N c (argsE 0 args) [] (Fin P rs r)) : Con P f args r := by
  intro okA w vs hvs
  refine calls_of_wp hf hb ?_
  have hlen : vs.length = args.length := hvs.length
  rw [Bool.and_eq_true] at ha
  have hle : args.length ≤ N := Nat.le_of_ble_eq_true ha.1
  have hsm : N ≤ 1000000 := Nat.le_of_ble_eq_true ha.2
  have r0 : Rep ⟨okA, fun _ => False, undef⟩ w N (fun _ => undef) (argsE 0 args) [] (vs.toArray ++ Array.replicate (fn.ntmps - vs.toArray.size) undef) w := by
    refine ⟨Frm.refl _ _ _, fun h m b hm => by simp [hk] at hm, fun h m hm => by simp [hk] at hm, fun h h' m m' b hm => by simp [hk] at hm, fun i x hx => ?_, by simp; omega, rfl, hsm⟩
    obtain ⟨_, z, hz, rfl⟩ := argsE_lk hx
    simp only [Nat.sub_zero] at hz
    obtain ⟨y, hy, hr⟩ := hvs.get hz
    refine ⟨y, ?_, ?_⟩
    · have hi : i < vs.length := by
        rcases Nat.lt_or_ge i vs.length with h | h
        · exact h
        · rw [List.getElem?_eq_none h] at hy; cases hy
      rw [Array.getElem?_append_left (by simpa using hi)]
      simpa using hy
    · simp only [RelT]
      have hzt : noT z = true := by
        have : ∀ {xs : List PV}, noTs xs = true → ∀ {i : Nat} {z : PV}, xs[i]? = some z → noT z = true := by
          intro xs
          induction xs with
          | nil => intro _ i z h; simp at h
          | cons x xs ih =>
            intro h i z hz
            simp only [noTs, Bool.and_eq_true] at h
            cases i with
            | zero => simp at hz; subst hz; exact h.1
            | succ i => exact ih h.2 (by simpa using hz)
        exact this ht hz
      exact Rel.untag (fun b hb => ⟨hb.1, fun h m hm => by simp [hk] at hm, .inr ⟨rfl, hb.2⟩⟩) z y hzt hr
  refine wp_mono (h _ w _ _ w r0) fun e a w' ⟨h1, h2, h3, ρ, E, H, hr, q⟩ => ?_
  obtain ⟨he, xs, hres, hle⟩ := q
  obtain ⟨ys, hrun, hrel⟩ := ResL.run (P := P) hr hres
  have hfin : ∃ v, (results fn a.tmps).run P w' = .ok v w' ∧ Rel w' (fun f b => b < w'.heap.size ∧ (w.heap.size ≤ b ∨ (f = false ∧ okA b))) r v := by
    have hrun' : (fn.results.mapM (resF a.tmps)).run P w' = .ok ys.toArray w' := by
      rw [hrs, Array.mapM_eq_mapM_toList]
      simp only [Sem.run_map, hrun, Result.andThen_ok]
    have hl := hrel.length
    refine ⟨if h : ys.toArray.size = 1 then ys.toArray[0] else .tuple ys.toArray, ?_, ?_⟩
    · have hre : results fn a.tmps = (do let vs ← fn.results.mapM (resF a.tmps); pure (if h : vs.size = 1 then vs[0] else .tuple vs)) := by
        unfold results
        congr 2
      rw [hre]
      simp only [Sem.run_bind, hrun', Result.andThen_ok, Sem.run_pure]
    · refine Le.rel (fun b hb => ⟨hb.1, hb.2.elim .inl (fun h => absurd h.1 (by simp))⟩) hle _ ?_
      match xs, ys, hrel, hl with
      | [], ys, hrel, hl => simp only [Rels] at hrel; subst hrel; simp only [tup, Rel, Rels]; exact ⟨[], by simp, rfl⟩
      | [x], ys, hrel, hl =>
        simp only [Rels] at hrel
        obtain ⟨y, zs, rfl, hx, rfl⟩ := hrel
        simpa [tup] using hx
      | x :: x' :: xs, ys, hrel, hl =>
        simp only [tup, Rel]
        refine ⟨ys, ?_, hrel⟩
        rw [dif_neg (by simp [hl])]
  obtain ⟨v, hv, hvr⟩ := hfin
  rcases he with rfl | rfl
  · exact ⟨h3, v, hv, v, rfl, hvr, ⟨hr.below.os, hr.below.tape, hr.below.output, hr.below.size, fun k hk => hr.below.block k hk (by simp)⟩⟩
  · exact ⟨h3, v, hv, v, rfl, hvr, ⟨hr.below.os, hr.below.tape, hr.below.output, hr.below.size, fun k hk => hr.below.block k hk (by simp)⟩⟩

/-- What the arguments of a call hold. -/
def evs (E : Env) : List Operand → Option (List PV)
  | [] => some []
  | o :: os => match evT E o, evs E os with
    | some (.p x), some xs => some (x :: xs)
    | _, _ => none

theorem evs_rel {okA : Acc} {w0 : World} {ρ : Nat → Value} {tmps : Array Value} {w : World} (r : Rep okA w0 N ρ E H tmps w) : ∀ {os : List Operand} {xs : List PV}, evs E os = some xs → Rels w (okF okA w0.heap.size ρ H w.heap.size) xs (os.map (Act.eval ⟨tmps, []⟩))
  | [], xs, h => by simp only [evs, Option.some.injEq] at h; subst h; simp [Rels]
  | o :: os, xs, h => by
    simp only [evs] at h
    split at h
    · rename_i x xs' hx hxs
      simp only [Option.some.injEq] at h
      subst h
      have h1 := ev_rel r hx
      simp only [RelT] at h1
      simp only [List.map_cons, Rels]
      exact ⟨_, _, rfl, h1, evs_rel r hxs⟩
    · cases h

theorem call_rep {okA : Acc} {w0 : World} {ρ : Nat → Value} {tmps : Array Value} {w : World} (r : Rep okA w0 N ρ E H tmps w) {f : FuncId} {args xs : List PV} {res : PV} {os : List Operand} (hc : Con P f args res) (hx : evs E os = some xs) (hle : Les xs args) :
    Calls P f (os.map (Act.eval ⟨tmps, []⟩)).toArray w fun e w' => ∃ y, e = .returned y ∧ Rep okA w0 N ρ E H tmps w' ∧ Rel w' (okF okA w0.heap.size ρ H w'.heap.size) res y ∧ Below w.heap.size w w' := by
  have h1 := Les.rel (fun b hb => okF.tag hb) hle _ (evs_rel r hx)
  have h2 := Rels.mono (ok' := fun _ b => b < w.heap.size ∧ okF okA w0.heap.size ρ H w.heap.size false b) (fun f b hb => ⟨hb.1, by cases f; exact hb; exact hb.tag⟩) (fun _ _ _ => rfl) _ _ h1
  refine (hc _ w _ h2).mono fun e w' ⟨y, he, hr, hb⟩ => ⟨y, he, r.world hb, ?_, hb⟩
  refine Rel.mono (fun f b hb' => ⟨hb'.1, fun h m hm => ?_, ?_⟩) (fun _ _ _ => rfl) _ _ hr
  · rcases hb'.2 with h3 | ⟨_, h3⟩
    · intro e
      exact absurd (r.blk_lt hm e).2 (by omega)
    · exact h3.2.1 h m hm
  · rcases hb'.2 with h3 | ⟨h4, h3⟩
    · exact .inl (Nat.le_trans r.below.size h3)
    · rcases h3.2.2 with h5 | h5
      · exact .inl h5
      · exact .inr ⟨h4, h5.2⟩

theorem call_ {d : Nat} {f : FuncId} {fn : Func} {os : Array Operand} {ts : Array TypeId} {ty : TypeId} {pos : String} {af : Array Edge} {args xs : List PV} {res : PV} (hf : P.funcs[f]? = some fn) (hn : (fn.name == "runtime.NumGoroutine") = false) (hb : fn.body.isNone = false)
    (hc : Con P f args res) (hx : evs E os.toList = some xs) (hle : Les xs args) (hd : Nat.blt d N = true) (k : TrL P N ops rest ((d, .p res) :: E) H Q) :
    TrL P N ops (⟨some d, .call { callee := .value (.func f), args := os, argTypes := ts }, ty, pos, af, none⟩ :: rest) E H Q := by
  intro okA w0 ρ tmps w r
  refine wpList_plain rfl fun K hK => ?_
  have hcall := call_rep r hc hx hle
  have hrun : (execOp (Act.eval ⟨tmps, []⟩) ⟨some d, .call { callee := .value (.func f), args := os, argTypes := ts }, ty, pos, af, none⟩).run P w = .ok (.enter f (os.map (Act.eval ⟨tmps, []⟩))) w := by
    have hn' : ¬ fn.name = "runtime.NumGoroutine" := by simpa using hn
    have hb' : ¬ fn.body = none := by intro h; rw [h] at hb; simp at hb
    simp [execOp, resolve, Deferred.ofValue, Act.eval, invoke, callFunc, hf, hn', hb']
  simp only [Oper.wp, hrun, Oper.upon]
  have harr : os.map (Act.eval ⟨tmps, []⟩) = (os.toList.map (Act.eval ⟨tmps, []⟩)).toArray := by apply Array.ext'; simp
  rw [harr]
  refine hcall.mono fun e w' ⟨y, he, hr, hrel, _⟩ => ?_
  subst he
  exact hK _ _ (k okA w0 ρ _ w' (hr.put (Nat.le_of_ble_eq_true hd) (x := .p res) (by simpa only [RelT] using hrel)))

/-! ### Tests -/
theorem cond_ {c : Operand} {x y : Code} {b : Bool} (hc : evT E c = some (.p (.v (.bool b)))) (h1 : b = true → Tr P N x E H Q) (h2 : b = false → Tr P N y E H Q) : Tr P N (.cond c x y) E H Q :=
  fun okA w0 ρ tmps w r => wp_cond_split (ev_v r hc) (fun h => h1 h okA w0 ρ tmps w r) (fun h => h2 h okA w0 ρ tmps w r)
theorem cond_d {c : Operand} {x y : Code} {p : Prop} [Decidable p] (hc : evT E c = some (.p (.v (.bool (decide p))))) (h1 : p → Tr P N x E H Q) (h2 : ¬ p → Tr P N y E H Q) : Tr P N (.cond c x y) E H Q :=
  cond_ hc (fun h => h1 (of_decide_eq_true h)) (fun h => h2 (of_decide_eq_false h))

/-- A guarded operation: the guard's Bool is known. -/
theorem guard_run {o : Oper} {j d : Nat} {want b : Bool} (hg : o.guard = some (j, want)) (hj : (ops[j]?).bind (·.dst) = some d) (hd : lk d E = some (.p (.v (.bool b)))) (hw : (b == want) = true) (k : TrL P N ops ({ o with guard := none } :: rest) E H Q) : TrL P N ops (o :: rest) E H Q := by
  intro okA w0 ρ tmps w r
  have h0 := k okA w0 ρ tmps w r
  obtain ⟨y, hy, hr⟩ := r.env d _ hd
  simp only [RelT, Rel] at hr
  subst hr
  have hbw : b = want := by simpa using hw
  have hwant : Region.wanted o (yielded ops tmps) = true := by simp [Region.wanted, hg, yielded, hj, hy, hbw]
  unfold wpList at h0 ⊢
  rw [if_pos hwant]
  rw [if_pos (by simp [Region.wanted])] at h0
  exact h0
theorem guard_skip {o : Oper} {j d t : Nat} {want b : Bool} (hg : o.guard = some (j, want)) (ht : o.dst = some t) (hN : Nat.blt t N = true) (hj : (ops[j]?).bind (·.dst) = some d) (hd : lk d E = some (.p (.v (.bool b)))) (hw : (b == want) = false) (k : TrL P N ops rest ((t, .p (.v undef)) :: E) H Q) : TrL P N ops (o :: rest) E H Q := by
  intro okA w0 ρ tmps w r
  obtain ⟨y, hy, hr⟩ := r.env d _ hd
  simp only [RelT, Rel] at hr
  subst hr
  have hbw : ¬ b = want := by simpa using hw
  have hwant : Region.wanted o (yielded ops tmps) = false := by simp [Region.wanted, hg, yielded, hj, hy, hbw]
  unfold wpList
  rw [if_neg (by simp [hwant]), ht]
  exact k okA w0 ρ _ w (r.put (Nat.le_of_ble_eq_true hN) (by simp only [RelT, Rel]))
/-- A guard that was passed over itself. -/
theorem guard_skip_u {o : Oper} {j d t : Nat} {want : Bool} (hg : o.guard = some (j, want)) (ht : o.dst = some t) (hN : Nat.blt t N = true) (hj : (ops[j]?).bind (·.dst) = some d) (hd : lk d E = some (.p (.v undef))) (k : TrL P N ops rest ((t, .p (.v undef)) :: E) H Q) : TrL P N ops (o :: rest) E H Q := by
  intro okA w0 ρ tmps w r
  obtain ⟨y, hy, hr⟩ := r.env d _ hd
  simp only [RelT, Rel] at hr
  subst hr
  have hwant : Region.wanted o (yielded ops tmps) = false := by simp [Region.wanted, hg, yielded, hj, hy, undef]
  unfold wpList
  rw [if_neg (by simp [hwant]), ht]
  exact k okA w0 ρ _ w (r.put (Nat.le_of_ble_eq_true hN) (by simp only [RelT, Rel]))
end

/-! ### Facts on types, asked of the kernel as Bools -/
def sizeB (P : Program) (t : TypeId) (n : Nat) : Bool := match P.info? t with
  | some i => Nat.beq i.size n
  | none => false
def oneB (P : Program) (t : TypeId) : Bool := sizeB P t 1 && match P.underlying t with
  | some (.struct _) | some (.array _ _) | none => false
  | some _ => true
def aggB (P : Program) (t : TypeId) (n : Nat) : Bool := sizeB P t n && match P.underlying t with
  | some (.struct _) | some (.array _ _) => true
  | _ => false
def fldB (P : Program) (s : TypeId) (f off : Nat) : Bool := match P.underlying s with
  | some (.struct fs) => match fs[f]? with
    | some fd => Nat.beq fd.offset off && match P.info? fd.type with
      | some i => Nat.blt 0 i.size
      | none => false
    | none => false
  | _ => false
def slB (P : Program) (t e sz : Nat) : Bool := sizeB P e sz && match P.underlying t with
  | some (.slice e') => Nat.beq e e'
  | _ => false
def kindB (P : Program) (t : TypeId) (k : IntKind) : Bool := match P.underlying t with
  | some (.int k') => decide (k = k')
  | _ => false
def strB (P : Program) (t : TypeId) : Bool := match P.underlying t with
  | some .string => true
  | _ => false

theorem sizeB_out {P : Program} {t : TypeId} {n : Nat} (h : sizeB P t n = true) : (P.info? t).map (·.size) = some n := by
  unfold sizeB at h
  cases hi : P.info? t with
  | none => rw [hi] at h; cases h
  | some i => rw [hi] at h; simp only at h; simp [Nat.eq_of_beq_eq_true h]
theorem TOne.of {P : Program} {t : TypeId} (h : oneB P t = true) : TOne P t := by
  simp only [oneB, Bool.and_eq_true] at h
  obtain ⟨h1, h2⟩ := h
  cases hu : P.underlying t with
  | none => rw [hu] at h2; cases h2
  | some d => rw [hu] at h2; exact ⟨d, hu, by cases d <;> simp_all, sizeB_out h1⟩
theorem TAgg.of {P : Program} {t : TypeId} {n : Nat} (h : aggB P t n = true) : TAgg P t n := by
  simp only [aggB, Bool.and_eq_true] at h
  obtain ⟨h1, h2⟩ := h
  cases hu : P.underlying t with
  | none => rw [hu] at h2; cases h2
  | some d => rw [hu] at h2; exact ⟨d, hu, by cases d <;> simp_all, sizeB_out h1⟩
theorem TFld.of {P : Program} {s : TypeId} {f off : Nat} (h : fldB P s f off = true) : TFld P s f off := by
  unfold fldB at h
  cases hu : P.underlying s with
  | none => rw [hu] at h; cases h
  | some d =>
    rw [hu] at h
    cases d <;> try (cases h; done)
    case struct fs =>
      simp only at h
      cases hf : fs[f]? with
      | none => rw [hf] at h; cases h
      | some fd =>
        rw [hf] at h
        simp only [Bool.and_eq_true] at h
        obtain ⟨h1, h2⟩ := h
        cases hi : P.info? fd.type with
        | none => rw [hi] at h2; cases h2
        | some i =>
          rw [hi] at h2
          simp only at h2
          have := Nat.le_of_ble_eq_true h2
          exact ⟨fs, fd, i.size - 1, hu, hf, Nat.eq_of_beq_eq_true h1, by rw [hi]; simp; omega⟩
theorem TSl.of {P : Program} {t e sz : Nat} (h : slB P t e sz = true) : TSl P t e sz := by
  simp only [slB, Bool.and_eq_true] at h
  obtain ⟨h1, h2⟩ := h
  cases hu : P.underlying t with
  | none => rw [hu] at h2; cases h2
  | some d =>
    rw [hu] at h2
    cases d <;> try (cases h2; done)
    case slice e' =>
      simp only at h2
      have := Nat.eq_of_beq_eq_true h2
      subst this
      exact ⟨hu, sizeB_out h1⟩
theorem TInt.of {P : Program} {t : TypeId} {k : IntKind} (h : kindB P t k = true) : TInt P t k := by
  unfold kindB at h
  cases hu : P.underlying t with
  | none => rw [hu] at h; cases h
  | some d =>
    rw [hu] at h
    cases d <;> try (cases h; done)
    case int k' =>
      have := of_decide_eq_true h
      subst this
      exact ⟨hu⟩
theorem TStr.of {P : Program} {t : TypeId} (h : strB P t = true) : TStr P t := by
  unfold strB at h
  cases hu : P.underlying t with
  | none => rw [hu] at h; cases h
  | some d => rw [hu] at h; cases d <;> try (cases h; done)
              case string => exact ⟨hu⟩
theorem TSz.of {P : Program} {t : TypeId} {n : Nat} (h : sizeB P t n = true) : TSz P t n := ⟨sizeB_out h⟩

def zeroB (P : Program) (t : TypeId) (zs : List Value) : Prop := ((P.info? t).bind (·.zero)).map (fun z => z.cells.toList) = some zs
theorem TZero.of {P : Program} {t : TypeId} {cs : List PV} (zs : List Value) (h : zeroB P t zs) (hc : cs = zs.map PV.v) (h1 : zs.all (·.oneCell') = true) : TZero P t cs := by
  unfold zeroB at h
  obtain ⟨z, hz, he⟩ := Option.map_eq_some_iff.1 h
  subst he
  exact ⟨z, hz, hc, fun u hu => List.all_eq_true.1 h1 u hu⟩
class TBool (P : Program) (t : TypeId) : Prop where
  out : P.underlying t = some .bool
def boolB (P : Program) (t : TypeId) : Bool := match P.underlying t with
  | some .bool => true
  | _ => false
theorem TBool.of {P : Program} {t : TypeId} (h : boolB P t = true) : TBool P t := by
  unfold boolB at h
  cases hu : P.underlying t with
  | none => rw [hu] at h; cases h
  | some d => rw [hu] at h; cases d <;> try (cases h; done)
              case bool => exact ⟨hu⟩

/-! ### Regions that draw their order -/
def planOk (md : Region.Mode) (ops : Array Oper) : Array Bool → List (Nat × Bool) → Bool
  | listed, [] => Region.ready md ops listed == []
  | listed, (i, b) :: r => Region.noSelect ops && (bif b then Region.free md ops listed i && (Region.ready md ops listed).contains i else Region.ready md ops listed == [i]) && planOk md ops (listed.setIfInBounds i true) r

/-- Whatever order is picked from here on; and T holds behind every operation that is carried out before number x has come up. -/
def wpAnyS (P : Program) (md : Region.Mode) (ops : Array Oper) (Q : Exit → Act → World → Prop) (x : Nat) (T : World → Prop) : Nat → Array Bool → Act → World → Prop
  | 0, listed, a, w => Region.ready md ops listed = [] ∧ Q .normal a w
  | fuel + 1, listed, a, w =>
    (Region.ready md ops listed = [] → Q .normal a w) ∧
    ∀ i ∈ Region.ready md ops listed, wpOp P ops Q i (fun a' w' => ((listed.setIfInBounds i true).getD x false = false → T w') ∧ wpAnyS P md ops Q x T fuel (listed.setIfInBounds i true) a' w') a w

section
variable {P : Program} {ops : Array Oper} {Q : Exit → Act → World → Prop} {md : Region.Mode} {x : Nat} {T S' : World → Prop}
theorem wpAny_of_S : ∀ (fuel : Nat) (listed : Array Bool) (a : Act) (w : World), wpAnyS P md ops Q x T fuel listed a w → wpAny P md ops Q fuel listed a w
  | 0, _, _, _, h => h
  | fuel + 1, _, _, _, h => ⟨h.1, fun i hi => wpOp_mono (fun a' w' h' => wpAny_of_S fuel _ a' w' h'.2) (h.2 i hi)⟩

/-- Number x waits for number i, or there is no number x. -/
def waits (md : Region.Mode) (ops : Array Oper) (x i : Nat) : Bool := match ops[x]? with
  | none => true
  | some o => o.after.toList.any fun e => Region.binds md e && Nat.beq e.on i
theorem waits_spec {i : Nat} (h : waits md ops x i = true) {listed : Array Bool} (hx : x ∈ Region.ready md ops listed) : listed.getD i false = true := by
  obtain ⟨_, o, ho, hall⟩ := mem_ready.1 hx
  unfold waits at h
  rw [ho] at h
  simp only [List.any_eq_true] at h
  obtain ⟨e, hk, hb⟩ := h
  rw [Bool.and_eq_true] at hb
  have := hall e (Array.mem_toList_iff.1 hk) hb.1
  rwa [Nat.eq_of_beq_eq_true hb.2] at this

/-- An operation that may come up now may be taken first: it yields its value in every world that meets S'; T says S' as long as x has not come up; x waits for it. -/
theorem wpAnyS_first {i : Nat} {oi : Oper} {v : Value} (hi : ops[i]? = some oi) (hix : i ≠ x) (hsel : ∀ (j : Nat) (o : Oper) cs b, ops[j]? = some o → o.op ≠ .select cs b)
    (hQ : ∀ c a w, Q (.panic c) (a.put oi.dst v) w → Q (.panic c) a w) (hS : (∀ w, S' w) ∨ ((∀ w, T w → S' w) ∧ waits md ops x i = true)) :
    ∀ (fuel : Nat) (listed : Array Bool) (a : Act) (w : World),
      (∀ j oj, ops[j]? = some oj → j ≠ i → listed.getD j true = false → (∀ e ∈ oj.after, Region.binds md e = true → e.on ≠ i) → oi.apart ops oj = true) →
      i ∈ Region.ready md ops listed → YieldsIf P ops S' oi v a → S' w → (listed.getD x false = false → T w) → ((∀ w, S' w) ∨ listed.getD x false = false) →
      wpAnyS P md ops Q x T fuel (listed.setIfInBounds i true) (a.put oi.dst v) w → wpAnyS P md ops Q x T (fuel + 1) listed a w := by
  intro fuel
  induction fuel with
  | zero =>
    intro listed a w _ hr hy hSw hT hx H
    refine ⟨fun h => (by rw [h] at hr; cases hr), fun j hj => ?_⟩
    by_cases hji : j = i
    · subst hji; exact hy.wpOp hi hSw ⟨fun h => hT (by rwa [getD_set_ne false hix] at h), H⟩
    · have := ready_mono hj hji
      rw [H.1] at this
      cases this
  | succ fuel ih =>
    intro listed a w hfree hr hy hSw hT hx H
    refine ⟨fun h => (by rw [h] at hr; cases hr), fun j hj => ?_⟩
    by_cases hji : j = i
    · subst hji; exact hy.wpOp hi hSw ⟨fun h => hT (by rwa [getD_set_ne false hix] at h), H⟩
    · have h1 := H.2 j (ready_mono hj hji)
      obtain ⟨hjun, oj, hoj, hall⟩ := mem_ready.1 hj
      have hiun : listed.getD i false ≠ true := fun h1 => by
        have h0 := (mem_ready.1 hr).1
        rcases Nat.lt_or_ge i listed.size with h' | h'
        · simp [h'] at h0 h1; rw [h0] at h1; cases h1
        · simp [Array.getElem?_eq_none h'] at h1
      have hnot : ∀ e ∈ oj.after, Region.binds md e = true → e.on ≠ i := fun e he hb heq => by
        have h1 := hall e he hb
        rw [heq] at h1
        exact hiun h1
      have hjx : (∀ w, S' w) ∨ (j ≠ x ∧ (listed.setIfInBounds j true).getD x false = false ∧ ∀ w, T w → S' w) := by
        rcases hS with h5 | ⟨h5, h6⟩
        · exact .inl h5
        · rcases hx with h7 | h7
          · exact .inl h7
          · have hne : j ≠ x := fun e => by subst e; exact hiun (waits_spec h6 hj)
            exact .inr ⟨hne, by rw [getD_set_ne false hne]; exact h7, h5⟩
      have h2 := wpOp_putIf hoj (hfree j oj hoj hji hjun hnot) (fun cs b => hsel i oi cs b hi) (fun cs b => hsel j oj cs b hoj) hQ hy h1
      have hfree' : ∀ k ok, ops[k]? = some ok → k ≠ i → (listed.setIfInBounds j true).getD k true = false →
          (∀ e ∈ ok.after, Region.binds md e = true → e.on ≠ i) → oi.apart ops ok = true := fun k ok hk hki hun hno => by
        refine hfree k ok hk hki ?_ hno
        by_cases hjk : j = k
        · subst hjk; exact hjun
        · rw [getD_set_ne true hjk] at hun; exact hun
      have hcomm : (listed.setIfInBounds i true).setIfInBounds j true = (listed.setIfInBounds j true).setIfInBounds i true := Array.setIfInBounds_comm _ _ (Ne.symm hji)
      refine wpOp_mono (fun a' w' h3 => ?_) h2
      have hT' : (listed.setIfInBounds j true).getD x false = false → T w' := fun h => h3.2.1 (by rw [hcomm, getD_set_ne false hix]; exact h)
      refine ⟨hT', ih (listed.setIfInBounds j true) a' w' hfree' (ready_mono hr (Ne.symm hji)) h3.1 ?_ hT' ?_ ?_⟩
      · rcases hjx with h5 | ⟨_, h5, h6⟩
        · exact h5 w'
        · exact h6 w' (hT' h5)
      · rcases hjx with h5 | ⟨_, h5, _⟩
        · exact .inl h5
        · exact .inr h5
      · rw [← hcomm]; exact h3.2.2

theorem wpAnyS_take {i : Nat} {oi : Oper} {v : Value} {fuel : Nat} {listed : Array Bool} {a : Act} {w : World} (hi : ops[i]? = some oi) (hix : i ≠ x)
    (hs : Region.noSelect ops = true) (hf : Region.free md ops listed i = true) (hr : (Region.ready md ops listed).contains i = true)
    (hQ : ∀ c a w, Q (.panic c) (a.put oi.dst v) w → Q (.panic c) a w) (hS : (∀ w, S' w) ∨ ((∀ w, T w → S' w) ∧ waits md ops x i = true)) (hy : YieldsIf P ops S' oi v a) (hSw : S' w) (hT : listed.getD x false = false → T w) (hx : (∀ w, S' w) ∨ listed.getD x false = false)
    (h : wpAnyS P md ops Q x T fuel (listed.setIfInBounds i true) (a.put oi.dst v) w) : wpAnyS P md ops Q x T (fuel + 1) listed a w :=
  wpAnyS_first hi hix (Region.noSelect_spec hs) hQ hS fuel listed a w (Region.free_spec hi hf) (by simpa using hr) hy hSw hT hx h
theorem wpAnyS_all {rs : List Nat} {fuel : Nat} {listed : Array Bool} {a : Act} {w : World} (hr : Region.ready md ops listed = rs) (hne : rs ≠ [])
    (h : ∀ i ∈ rs, wpOp P ops Q i (fun a' w' => ((listed.setIfInBounds i true).getD x false = false → T w') ∧ wpAnyS P md ops Q x T fuel (listed.setIfInBounds i true) a' w') a w) : wpAnyS P md ops Q x T (fuel + 1) listed a w :=
  ⟨fun h0 => absurd (hr ▸ h0) hne, hr ▸ h⟩
theorem wpAnyS_done {listed : Array Bool} {a : Act} {w : World} (hr : Region.ready md ops listed = []) (h : Q .normal a w) :
    ∀ fuel, wpAnyS P md ops Q x T fuel listed a w
  | 0 => ⟨hr, h⟩
  | _ + 1 => ⟨fun _ => h, by rw [hr]; simp⟩
end

def TrD (P : Program) (N : Nat) (ops : Array Oper) (x : Nat) (plan : List (Nat × Bool)) (op ph : Bool) (St : List Nat) (E : Env) (H : Hp) (Q : Exit → Env → Hp → Prop) : Prop :=
  ∀ okA w0 ρ tmps w (w1 : World) (stab : Nat → Prop) (listed : Array Bool), Rep okA w0 N ρ E H tmps w → planOk .any ops listed plan = true →
    (op = true → ∀ b, stab b → b < w.heap.size ∧ w.heap[b]? = w1.heap[b]?) → (op = true → ∀ h ∈ St, ∀ m b, hk h H = some m → blk (ρ h) = some b → stab b) → (op = true → ∀ h m b, hk h H = some m → h ∉ St → blk (ρ h) = some b → ¬ stab b) →
    (op = true → ph = true → ∀ f b, okF okA w0.heap.size ρ H w.heap.size f b → stab b) → listed.getD x false = !op →
    wpAnyS P .any ops (Post okA w0 N Q) x (fun W => ∀ b, stab b → W.heap[b]? = w1.heap[b]?) plan.length listed ⟨tmps, []⟩ w

/-- Is the operation carried out, as far as is known? -/
def wantB (ops : Array Oper) (E : Env) : Option (Nat × Bool) → Option Bool
  | none => some true
  | some (j, want) => match (ops[j]?).bind (·.dst) with
    | some d => match lk d E with
      | some (.p (.v (.bool b))) => some (b == want)
      | some (.p (.v (.tuple _))) => some false
      | _ => none
    | none => none

/-- May number i be taken first? -/
def rdOk (ops : Array Oper) (sx i : Nat) (ob ph : Bool) (St : List Nat) : Rd → Bool
  | .no => !(Nat.beq i sx)
  | .hd h => !(Nat.beq i sx) && (ob && (waits .any ops sx i && St.any (Nat.beq h)))
  | .im => !(Nat.beq i sx) && (ob && (waits .any ops sx i && ph))
theorem rdOk_ne {ops : Array Oper} {sx i : Nat} {ob ph : Bool} {St : List Nat} {rd : Rd} (h : rdOk ops sx i ob ph St rd = true) : i ≠ sx := by
  intro e
  subst e
  have hb : Nat.beq i i = true := Nat.beq_refl i
  cases rd <;> simp [rdOk] at h

section
variable {P : Program} {N : Nat} {E : Env} {H : Hp} {Q : Exit → Env → Hp → Prop} {ops : Array Oper} {sx : Nat} {plan : List (Nat × Bool)} {ob ph : Bool} {St : List Nat}

theorem want_spec {okA : Acc} {w0 : World} {ρ : Nat → Value} {tmps : Array Value} {w : World} (r : Rep okA w0 N ρ E H tmps w) {o : Oper} {b : Bool} (h : wantB ops E o.guard = some b) : Region.wanted o (yielded ops tmps) = b := by
  unfold wantB at h
  unfold Region.wanted
  cases hg : o.guard with
  | none => rw [hg] at h; simpa using h
  | some q =>
    obtain ⟨j, want⟩ := q
    rw [hg] at h
    simp only at h ⊢
    cases hj : (ops[j]?).bind (·.dst) with
    | none => rw [hj] at h; simp at h
    | some d =>
      rw [hj] at h
      simp only at h
      split at h
      · rename_i b' hb'
        obtain ⟨y, hy, hr⟩ := r.env d _ hb'
        simp only [RelT, Rel] at hr
        subst hr
        simp only [Option.some.injEq] at h
        simp [yielded, hj, hy, h]
      · rename_i b' hb'
        obtain ⟨y, hy, hr⟩ := r.env d _ hb'
        simp only [RelT, Rel] at hr
        subst hr
        simp only [Option.some.injEq] at h
        simp [yielded, hj, hy, h]
      · cases h

theorem post_panic {okA : Acc} {w0 : World} {d : Option Tmp} {v : Value} : ∀ c a w, Post okA w0 N Q (.panic c) (a.put d v) w → Post okA w0 N Q (.panic c) a w := fun c a w h => absurd rfl (h.1 c)

theorem draw_ {id : Nat} {l : List Oper} (plan : List (Nat × Bool)) (sx : Nat) (St : List Nat) (hm : P.follows .mixedOrders = true) (hp : planOk .any l.toArray (Array.replicate l.toArray.size false) plan = true) (hl : plan.length = l.length)
    (h : TrD P N l.toArray sx plan true true St E H Q) : Tr P N (.region id l.toArray true) E H Q := by
  unfold Tr
  intro okA w0 ρ tmps w r
  have r' : Rep okA w0 N ρ E H tmps { w with drawn := w.drawn + 1 } := r.world ((Below.refl _ _).drew)
  refine wp_region_any hm (wpAny_of_S (x := sx) (T := fun W => ∀ b, (b < w.heap.size ∧ ∀ h m, hk h H = some m → h ∉ St → blk (ρ h) ≠ some b) → W.heap[b]? = w.heap[b]?) _ _ _ _ ?_)
  have := h okA w0 ρ tmps _ w (fun b => b < w.heap.size ∧ ∀ h m, hk h H = some m → h ∉ St → blk (ρ h) ≠ some b) _ r' hp (fun _ b hb => ⟨hb.1, rfl⟩) ?_ ?_ ?_ ?_
  · simpa [hl] using this
  · intro _ h hs m b hm hb
    refine ⟨(r.blk_lt hm hb).2, fun h' m' hm' hn e => ?_⟩
    exact r.disj h h' m m' b hm hm' (fun e => hn (e ▸ hs)) hb e
  · intro _ h m b hm hn hb hc
    exact hc.2 h m hm hn hb
  · intro _ _ f b hb
    exact ⟨hb.1, fun h m hm hn => hb.2.1 h m hm⟩
  · rw [Array.getD_eq_getD_getElem?]
    cases hq : (Array.replicate l.toArray.size false)[sx]? with
    | none => rfl
    | some v =>
      rw [Array.getElem?_replicate] at hq
      split at hq
      · simp at hq; subst hq; rfl
      · cases hq

theorem dEnd (h : Q .normal E H) : TrD P N ops sx [] ob ph St E H Q := by
  unfold TrD
  intro okA w0 ρ tmps w w1 stab listed r hp _ _ _ _ _
  simp only [planOk, beq_iff_eq] at hp
  exact wpAnyS_done hp ⟨by simp, by simp, rfl, ρ, E, H, r, h⟩ _

def rdIn (H : Hp) : Rd → Bool
  | .hd k => match hk k H with
    | some _ => true
    | none => false
  | _ => true
theorem rdIn_spec {rd : Rd} (h : rdIn H rd = true) : ∀ k, rd = .hd k → ∃ m, hk k H = some m := by
  intro k e
  subst e
  simp only [rdIn] at h
  cases hh : hk k H with
  | none => rw [hh] at h; cases h
  | some m => exact ⟨m, rfl⟩

theorem yields_if {okA : Acc} {w0 : World} {ρ : Nat → Value} {tmps : Array Value} {w w1 : World} {stab : Nat → Prop} {o : Oper} {i : Nat} {op : Op} {ty : TypeId} {x : TV} {rd : Rd} (r : Rep okA w0 N ρ E H tmps w) (hop : o.op = op) (hty : o.type = ty)
    (h : Yl P op ty E H x rd) (hrd : rdOk ops sx i ob ph St rd = true) (hrh : ∀ k, rd = .hd k → ∃ m, hk k H = some m)
    (h1 : ob = true → ∀ b, stab b → b < w.heap.size ∧ w.heap[b]? = w1.heap[b]?) (h2 : ob = true → ∀ h ∈ St, ∀ m b, hk h H = some m → blk (ρ h) = some b → stab b) (h4 : ob = true → ph = true → ∀ f b, okF okA w0.heap.size ρ H w.heap.size f b → stab b) :
    ∃ y, RelT w (okF okA w0.heap.size ρ H w.heap.size) ρ x y ∧ ∃ S' : World → Prop, ((∀ W, S' W) ∨ ((∀ W, (∀ b, stab b → W.heap[b]? = w1.heap[b]?) → S' W) ∧ waits .any ops sx i = true)) ∧ S' w ∧ ((∀ W, S' W) ∨ ob = true) ∧
      (∀ W, S' W → (execOp (Act.eval ⟨tmps, []⟩) o).run P W = .ok (.value y) W) := by
  obtain ⟨y, hrun, hr⟩ := h okA w0 N ρ tmps w r
  refine ⟨y, hr, fun W => rd.same (okF okA w0.heap.size ρ H w.heap.size) ρ w W, ?_, rd.same_refl _ _ _, ?_, fun W hs => ?_⟩
  · cases rd with
    | no => exact .inl (fun W => by simp [Rd.same])
    | hd k =>
      simp only [rdOk, Bool.and_eq_true] at hrd
      obtain ⟨_, ho, hw, hst⟩ := hrd
      refine .inr ⟨fun W hW => ?_, hw⟩
      simp only [Rd.same]
      intro b hb
      obtain ⟨m, hm⟩ := hrh k rfl
      have hk' : k ∈ St := by
        simp only [List.any_eq_true] at hst
        obtain ⟨z, hz, hz2⟩ := hst
        rw [Nat.eq_of_beq_eq_true hz2]; exact hz
      have := h2 ho k hk' m b hm hb
      rw [hW b this, (h1 ho b this).2]
    | im =>
      simp only [rdOk, Bool.and_eq_true] at hrd
      obtain ⟨_, ho, hw, hph⟩ := hrd
      refine .inr ⟨fun W hW => ?_, hw⟩
      simp only [Rd.same]
      intro b hb
      have := h4 ho hph false b hb
      rw [hW b this, (h1 ho b this).2]
  · cases rd with
    | no => exact .inl (fun W => by simp [Rd.same])
    | hd k => simp only [rdOk, Bool.and_eq_true] at hrd; exact .inr hrd.2.1
    | im => simp only [rdOk, Bool.and_eq_true] at hrd; exact .inr hrd.2.1
  · have := hrun W hs o.dst o.pos o.after o.guard
    cases o
    subst hop
    subst hty
    exact this

theorem notT {listed : Array Bool} {i sx : Nat} {ob : Bool} (h5 : listed.getD sx false = !ob) (hne : i ≠ sx) (h : (listed.setIfInBounds i true).getD sx false = false) : ob = true := by
  rw [getD_set_ne false hne, h5] at h
  simpa using h

theorem dY {i d : Nat} {op : Op} {ty : TypeId} {pos : String} {af : Array Edge} {g : Option (Nat × Bool)} {x : TV} {rd : Rd} (hi : ops[i]? = some ⟨some d, op, ty, pos, af, g⟩) (h : Yl P op ty E H x rd) (hg : wantB ops E g = some true) (hrd : rdOk ops sx i ob ph St rd = true) (hin : rdIn H rd = true) (hd : Nat.blt d N = true)
    (k : TrD P N ops sx plan ob ph St ((d, x) :: E) H Q) : TrD P N ops sx ((i, true) :: plan) ob ph St E H Q := by
  unfold TrD at k ⊢
  intro okA w0 ρ tmps w w1 stab listed r hp h1 h2 h3 h4 h5
  simp only [planOk, cond_true, Bool.and_eq_true] at hp
  obtain ⟨⟨hs, hf, hr⟩, hp⟩ := hp
  have hne := rdOk_ne hrd
  obtain ⟨y, hrel, S', hS1, hS2, hS3, hrun⟩ := yields_if r (o := ⟨some d, op, ty, pos, af, g⟩) (i := i) rfl rfl h hrd (rdIn_spec hin) h1 h2 h4
  refine wpAnyS_take hi hne hs hf hr post_panic hS1 (.inl ⟨want_spec r hg, hrun⟩) hS2 (fun h => fun b hb => (h1 (by rw [h5] at h; simpa using h) b hb).2) (hS3.imp id (fun e => by rw [h5, e]; rfl)) ?_
  exact k okA w0 ρ _ w w1 stab _ (r.put (Nat.le_of_ble_eq_true hd) hrel) hp h1 h2 h3 h4 (by rw [getD_set_ne false hne]; exact h5)

/-- A guarded operation that is passed over. -/
theorem dSkip {i d : Nat} {op : Op} {ty : TypeId} {pos : String} {af : Array Edge} {g : Option (Nat × Bool)} (hi : ops[i]? = some ⟨some d, op, ty, pos, af, g⟩) (hg : wantB ops E g = some false) (hd : Nat.blt d N = true) (hx : Nat.beq i sx = false)
    (k : TrD P N ops sx plan ob ph St ((d, .p (.v undef)) :: E) H Q) : TrD P N ops sx ((i, true) :: plan) ob ph St E H Q := by
  unfold TrD at k ⊢
  intro okA w0 ρ tmps w w1 stab listed r hp h1 h2 h3 h4 h5
  simp only [planOk, cond_true, Bool.and_eq_true] at hp
  obtain ⟨⟨hs, hf, hr⟩, hp⟩ := hp
  have hne : i ≠ sx := fun e => by subst e; rw [Nat.beq_refl] at hx; cases hx
  refine wpAnyS_take (S' := fun _ => True) hi hne hs hf hr post_panic (.inl fun _ => trivial) (.inr ⟨want_spec r hg, rfl⟩) trivial (fun h => fun b hb => (h1 (by rw [h5] at h; simpa using h) b hb).2) (.inl fun _ => trivial) ?_
  exact k okA w0 ρ _ w w1 stab _ (r.put (Nat.le_of_ble_eq_true hd) (by simp only [RelT, Rel])) hp h1 h2 h3 h4 (by rw [getD_set_ne false hne]; exact h5)

/-- The same where it is the only one that may come up. -/
theorem dSkip1 {i d : Nat} {op : Op} {ty : TypeId} {pos : String} {af : Array Edge} {g : Option (Nat × Bool)} (hi : ops[i]? = some ⟨some d, op, ty, pos, af, g⟩) (hg : wantB ops E g = some false) (hd : Nat.blt d N = true) (hx : Nat.beq i sx = false)
    (k : TrD P N ops sx plan ob ph St ((d, .p (.v undef)) :: E) H Q) : TrD P N ops sx ((i, false) :: plan) ob ph St E H Q := by
  unfold TrD at k ⊢
  intro okA w0 ρ tmps w w1 stab listed r hp h1 h2 h3 h4 h5
  simp only [planOk, cond_false, Bool.and_eq_true, beq_iff_eq] at hp
  obtain ⟨⟨hs, hr⟩, hp⟩ := hp
  have hne : i ≠ sx := fun e => by subst e; rw [Nat.beq_refl] at hx; cases hx
  refine wpAnyS_all hr (by simp) (fun j hj => ?_)
  simp only [List.mem_singleton] at hj
  subst hj
  unfold wpOp
  simp only [hi]
  have hw := want_spec r (o := ⟨some d, op, ty, pos, af, g⟩) hg
  rw [if_neg (by rw [hw]; simp)]
  exact ⟨fun h b hb => (h1 (notT h5 hne h) b hb).2, k okA w0 ρ _ w w1 stab _ (r.put (Nat.le_of_ble_eq_true hd) (by simp only [RelT, Rel])) hp h1 h2 h3 h4 (by rw [getD_set_ne false hne]; exact h5)⟩

/-- The one operation that may come up yields a value. -/
theorem dY1 {i d : Nat} {op : Op} {ty : TypeId} {pos : String} {af : Array Edge} {g : Option (Nat × Bool)} {x : TV} {rd : Rd} (hi : ops[i]? = some ⟨some d, op, ty, pos, af, g⟩) (h : Yl P op ty E H x rd) (hg : wantB ops E g = some true) (hd : Nat.blt d N = true) (hx : Nat.beq i sx = false)
    (k : TrD P N ops sx plan ob ph St ((d, x) :: E) H Q) : TrD P N ops sx ((i, false) :: plan) ob ph St E H Q := by
  unfold TrD at k ⊢
  intro okA w0 ρ tmps w w1 stab listed r hp h1 h2 h3 h4 h5
  simp only [planOk, cond_false, Bool.and_eq_true, beq_iff_eq] at hp
  obtain ⟨⟨hs, hr⟩, hp⟩ := hp
  have hne : i ≠ sx := fun e => by subst e; rw [Nat.beq_refl] at hx; cases hx
  refine wpAnyS_all hr (by simp) (fun j hj => ?_)
  simp only [List.mem_singleton] at hj
  subst hj
  obtain ⟨y, hrun, hrel⟩ := h okA w0 N ρ tmps w r
  unfold wpOp
  simp only [hi]
  rw [if_pos (want_spec r hg)]
  refine .inl ?_
  have := hrun w (rd.same_refl _ _ _) (some d) pos af g
  simp only [Oper.wp, this, Oper.upon]
  exact ⟨fun h b hb => (h1 (notT h5 hne h) b hb).2, k okA w0 ρ _ w w1 stab _ (r.put (Nat.le_of_ble_eq_true hd) hrel) hp h1 h2 h3 h4 (by rw [getD_set_ne false hne]; exact h5)⟩

/-- The one operation that may come up changes something. -/
theorem dE {i : Nat} {dst : Option Tmp} {op : Op} {ty : TypeId} {pos : String} {af : Array Edge} {g : Option (Nat × Bool)} {E' : Env} {H' : Hp} {W : List Nat} (hi : ops[i]? = some ⟨dst, op, ty, pos, af, g⟩) (h : Eff P N dst op ty E H E' H' W) (hg : wantB ops E g = some true) (hW : (!(Nat.beq i sx) && W.all fun h => !St.any (Nat.beq h)) = true)
    (k : TrD P N ops sx plan ob false St E' H' Q) : TrD P N ops sx ((i, false) :: plan) ob ph St E H Q := by
  unfold TrD at k ⊢
  intro okA w0 ρ tmps w w1 stab listed r hp h1 h2 h3 h4 h5
  simp only [planOk, cond_false, Bool.and_eq_true, beq_iff_eq] at hp
  obtain ⟨⟨hs, hr⟩, hp⟩ := hp
  rw [Bool.and_eq_true] at hW
  obtain ⟨hx, hW⟩ := hW
  have hne : i ≠ sx := fun e => by subst e; rw [Nat.beq_refl] at hx; cases hx
  refine wpAnyS_all hr (by simp) (fun j hj => ?_)
  simp only [List.mem_singleton] at hj
  subst hj
  have hWS : ∀ h ∈ W, h ∉ St := by
    intro h hw hst
    have := List.all_eq_true.1 hW h hw
    simp only [Bool.not_eq_true', List.any_eq_false] at this
    exact this h hst (by simp)
  obtain ⟨n, y, ρ', w', hrun, hn, hr', hfr, hsz, hag, hold, hnew⟩ := h okA w0 ρ tmps w r
  have h1' : ob = true → ∀ b, stab b → b < w'.heap.size ∧ w'.heap[b]? = w1.heap[b]? := fun ho b hb => by
    obtain ⟨hb1, hb2⟩ := h1 ho b hb
    refine ⟨Nat.lt_of_lt_of_le hb1 hsz, ?_⟩
    rw [hfr b hb1 (fun h hw m hm e => h3 ho h m b hm (hWS h hw) e hb)]
    exact hb2
  have hk' := k okA w0 ρ' _ w' w1 stab _ hr' hp h1' (fun ho h hs m b hm hb => by
      have hnw : h ∉ W := fun hw => hWS h hw hs
      obtain ⟨m0, hm0⟩ := hold h m hm hnw
      rw [hag h hnw] at hb
      exact h2 ho h hs m0 b hm0 hb)
    (fun ho h m b hm hn' hb hst => by
      by_cases hw : h ∈ W
      · rcases hnew h hw b hb with h5 | ⟨m0, h5, h6⟩
        · have := (h1 ho b hst).1; omega
        · exact h3 ho h m0 b h5 hn' h6 hst
      · obtain ⟨m0, hm0⟩ := hold h m hm hw
        rw [hag h hw] at hb
        exact h3 ho h m0 b hm0 hn' hb hst) (fun _ e => by cases e) (by rw [getD_set_ne false hne]; exact h5)
  unfold wpOp
  simp only [hi]
  rw [if_pos (want_spec r hg)]
  refine .inl ?_
  have := hrun pos af g
  simp only [Oper.wp, this]
  rcases hn with rfl | ⟨rfl, rfl⟩
  · simp only [Oper.upon]
    rw [put_nil]
    exact ⟨fun h b hb => (h1' (notT h5 hne h) b hb).2, hk'⟩
  · simp only [Oper.upon]
    rw [put_nil]
    exact ⟨fun h b hb => (h1' (notT h5 hne h) b hb).2, hk'⟩

/-- Number sx comes up: from here on nothing is taken first that reads memory. -/
theorem dX {i : Nat} {dst : Option Tmp} {op : Op} {ty : TypeId} {pos : String} {af : Array Edge} {g : Option (Nat × Bool)} {E' : Env} {H' : Hp} {W : List Nat} (hi : ops[i]? = some ⟨dst, op, ty, pos, af, g⟩) (h : Eff P N dst op ty E H E' H' W) (hg : wantB ops E g = some true) (hix : Nat.beq i sx = true)
    (k : TrD P N ops sx plan false false [] E' H' Q) : TrD P N ops sx ((i, false) :: plan) ob ph St E H Q := by
  unfold TrD at k ⊢
  intro okA w0 ρ tmps w w1 stab listed r hp h1 h2 h3 h4 h5
  simp only [planOk, cond_false, Bool.and_eq_true, beq_iff_eq] at hp
  obtain ⟨⟨hs, hr⟩, hp⟩ := hp
  have hl : (listed.setIfInBounds i true).getD sx false = true := by
    have hm : i ∈ Region.ready .any ops listed := by rw [hr]; simp
    have h0 := (mem_ready.1 hm).1
    rw [← Nat.eq_of_beq_eq_true hix]
    rcases Nat.lt_or_ge i listed.size with h' | h'
    · simp [h']
    · simp [Array.getElem?_eq_none h'] at h0
  refine wpAnyS_all hr (by simp) (fun j hj => ?_)
  simp only [List.mem_singleton] at hj
  subst hj
  obtain ⟨n, y, ρ', w', hrun, hn, hr', hfr, hsz, hag, hold, hnew⟩ := h okA w0 ρ tmps w r
  have hk' := k okA w0 ρ' _ w' w1 stab _ hr' hp (fun e => by cases e) (fun e => by cases e) (fun e => by cases e) (fun e => by cases e) hl
  unfold wpOp
  simp only [hi]
  rw [if_pos (want_spec r hg)]
  refine .inl ?_
  have := hrun pos af g
  simp only [Oper.wp, this]
  rcases hn with rfl | ⟨rfl, rfl⟩
  · simp only [Oper.upon]
    rw [put_nil]
    exact ⟨fun h => (by rw [hl] at h; cases h), hk'⟩
  · simp only [Oper.upon]
    rw [put_nil]
    exact ⟨fun h => (by rw [hl] at h; cases h), hk'⟩

/-- The one operation that may come up is a call. -/
theorem dC {i d : Nat} {f : FuncId} {fn : Func} {os : Array Operand} {ts : Array TypeId} {ty : TypeId} {pos : String} {af : Array Edge} {g : Option (Nat × Bool)} {args xs : List PV} {res : PV} (hi : ops[i]? = some ⟨some d, .call { callee := .value (.func f), args := os, argTypes := ts }, ty, pos, af, g⟩)
    (hf : P.funcs[f]? = some fn) (hn : (fn.name == "runtime.NumGoroutine") = false) (hb : fn.body.isNone = false) (hc : Con P f args res) (hx : evs E os.toList = some xs) (hle : Les xs args) (hg : wantB ops E g = some true) (hd : (Nat.blt d N && !(Nat.beq i sx)) = true)
    (k : TrD P N ops sx plan ob false St ((d, .p res) :: E) H Q) : TrD P N ops sx ((i, false) :: plan) ob ph St E H Q := by
  unfold TrD at k ⊢
  intro okA w0 ρ tmps w w1 stab listed r hp h1 h2 h3 h4 h5
  simp only [planOk, cond_false, Bool.and_eq_true, beq_iff_eq] at hp
  obtain ⟨⟨hs, hr⟩, hp⟩ := hp
  rw [Bool.and_eq_true] at hd
  obtain ⟨hd, hx'⟩ := hd
  have hne : i ≠ sx := fun e => by subst e; rw [Nat.beq_refl] at hx'; cases hx'
  refine wpAnyS_all hr (by simp) (fun j hj => ?_)
  simp only [List.mem_singleton] at hj
  subst hj
  have hcall := call_rep r hc hx hle
  have hrun : (execOp (Act.eval ⟨tmps, []⟩) ⟨some d, .call { callee := .value (.func f), args := os, argTypes := ts }, ty, pos, af, g⟩).run P w = .ok (.enter f (os.map (Act.eval ⟨tmps, []⟩))) w := by
    have hn' : ¬ fn.name = "runtime.NumGoroutine" := by simpa using hn
    have hb' : ¬ fn.body = none := by intro h; rw [h] at hb; simp at hb
    simp [execOp, resolve, Deferred.ofValue, Act.eval, invoke, callFunc, hf, hn', hb']
  unfold wpOp
  simp only [hi]
  rw [if_pos (want_spec r hg)]
  refine .inl ?_
  simp only [Oper.wp, hrun, Oper.upon]
  have harr : os.map (Act.eval ⟨tmps, []⟩) = (os.toList.map (Act.eval ⟨tmps, []⟩)).toArray := by apply Array.ext'; simp
  rw [harr]
  refine hcall.mono fun e w' ⟨y, he, hr', hrel, hbel⟩ => ?_
  subst he
  have h1' : ob = true → ∀ b, stab b → b < w'.heap.size ∧ w'.heap[b]? = w1.heap[b]? := fun ho b hb => ⟨Nat.lt_of_lt_of_le (h1 ho b hb).1 hbel.size, by rw [hbel.block b (h1 ho b hb).1]; exact (h1 ho b hb).2⟩
  exact ⟨fun h b hb => (h1' (notT h5 hne h) b hb).2, k okA w0 ρ _ w' w1 stab _ (hr'.put (Nat.le_of_ble_eq_true hd) (x := .p res) (by simpa only [RelT] using hrel)) hp h1' h2 h3 (fun _ e => by cases e) (by rw [getD_set_ne false hne]; exact h5)⟩
end
/-! ### More operations -/
section
variable {P : Program} {N : Nat} {E : Env} {H : Hp} {Q : Exit → Env → Hp → Prop} {ops : Array Oper} {rest : List Oper}

theorem y_quo {x y : Operand} {t t' ty : TypeId} {k : IntKind} {a b : Int} (hx : evT E x = some (.p (.v (.int k a)))) (hy : evT E y = some (.p (.v (.int k b)))) (h0 : b ≠ 0) : Yl P (.binOp .quo t x y t') ty E H (.p (.v (.int k (k.wrap (a.tdiv b))))) .no := by
  unfold Yl
  intro _ _ _ _ _ _ r
  exact ⟨.int k (k.wrap (a.tdiv b)), fun W _ _ _ _ _ => by simp [execOp, ev_v r hx, ev_v r hy, eqGuard_quo, binOp_quo, Op.intDiv, h0], by simp [RelT, Rel]⟩
theorem y_rem {x y : Operand} {t t' ty : TypeId} {k : IntKind} {a b : Int} (hx : evT E x = some (.p (.v (.int k a)))) (hy : evT E y = some (.p (.v (.int k b)))) (h0 : b ≠ 0) : Yl P (.binOp .rem t x y t') ty E H (.p (.v (.int k (a.tmod b)))) .no := by
  unfold Yl
  intro _ _ _ _ _ _ r
  exact ⟨.int k (a.tmod b), fun W _ _ _ _ _ => by simp [execOp, ev_v r hx, ev_v r hy, eqGuard_rem, binOp_rem, Op.intDiv, h0], by simp [RelT, Rel]⟩
theorem y_shl {x y : Operand} {t t' ty : TypeId} {k k' : IntKind} {a b : Int} (hx : evT E x = some (.p (.v (.int k a)))) (hy : evT E y = some (.p (.v (.int k' b)))) (h0 : 0 ≤ b) (h1 : b ≤ k.bits) : Yl P (.binOp .shl t x y t') ty E H (.p (.v (.int k (k.wrap (a * 2 ^ b.toNat))))) .no := by
  unfold Yl
  intro _ _ _ _ _ _ r
  exact ⟨.int k (k.wrap (a * 2 ^ b.toNat)), fun W _ _ _ _ _ => by simp [execOp, ev_v r hx, ev_v r hy, eqGuard_shl, binOp_shl, shift_shl _ _ _ _ h0 h1], by simp [RelT, Rel]⟩
theorem y_shr {x y : Operand} {t t' ty : TypeId} {k k' : IntKind} {a b : Int} (hx : evT E x = some (.p (.v (.int k a)))) (hy : evT E y = some (.p (.v (.int k' b)))) (h0 : 0 ≤ b) (h1 : b ≤ k.bits) : Yl P (.binOp .shr t x y t') ty E H (.p (.v (.int k (a / 2 ^ b.toNat)))) .no := by
  unfold Yl
  intro _ _ _ _ _ _ r
  exact ⟨.int k (a / 2 ^ b.toNat), fun W _ _ _ _ _ => by simp [execOp, ev_v r hx, ev_v r hy, eqGuard_shr, binOp_shr, shift_shr _ _ _ _ h0 h1], by simp [RelT, Rel]⟩

theorem y_max {x y : Operand} {t t' ty : TypeId} {k : IntKind} {a b : Int} (hx : evT E x = some (.p (.v (.int k a)))) (hy : evT E y = some (.p (.v (.int k b)))) : Yl P (.call { callee := .builtin .max, args := #[x, y], argTypes := #[t, t'] }) ty E H (.p (.v (.int k (if a < b then b else a)))) .no := by
  unfold Yl
  intro _ _ _ _ _ _ r
  exact ⟨.int k (if a < b then b else a), fun W _ _ _ _ _ => by simp [execOp, resolve, invoke, builtin, ev_v r hx, ev_v r hy, Builtin.max_, Builtin.max2], by simp [RelT, Rel]⟩
theorem y_min {x y : Operand} {t t' ty : TypeId} {k : IntKind} {a b : Int} (hx : evT E x = some (.p (.v (.int k a)))) (hy : evT E y = some (.p (.v (.int k b)))) : Yl P (.call { callee := .builtin .min, args := #[x, y], argTypes := #[t, t'] }) ty E H (.p (.v (.int k (if b < a then b else a)))) .no := by
  unfold Yl
  intro _ _ _ _ _ _ r
  exact ⟨.int k (if b < a then b else a), fun W _ _ _ _ _ => by simp [execOp, resolve, invoke, builtin, ev_v r hx, ev_v r hy, Builtin.min_, Builtin.min2], by simp [RelT, Rel]⟩

/-- A comparison of Bools. -/
theorem y_eqb {x y : Operand} {t t' ty : TypeId} {a b : Bool} [ht : TBool P t] (hx : evT E x = some (.p (.v (.bool a)))) (hy : evT E y = some (.p (.v (.bool b)))) : Yl P (.binOp .eql t x y t') ty E H (.p (.v (.bool (decide (a = b))))) .no := by
  unfold Yl
  intro _ _ _ _ _ _ r
  refine ⟨.bool (decide (a = b)), fun W _ _ _ _ _ => ?_, by simp [RelT, Rel]⟩
  have := run_eql_bool (P := P) W t a b ht.out
  simp only [execOp, ev_v r hx, ev_v r hy, eqGuard_at_bool, Sem.run_bind, Sem.run_pure, Result.andThen_ok, this]
  cases a <;> cases b <;> rfl
theorem y_neb {x y : Operand} {t t' ty : TypeId} {a b : Bool} [ht : TBool P t] (hx : evT E x = some (.p (.v (.bool a)))) (hy : evT E y = some (.p (.v (.bool b)))) : Yl P (.binOp .neq t x y t') ty E H (.p (.v (.bool (decide (a ≠ b))))) .no := by
  unfold Yl
  intro _ _ _ _ _ _ r
  refine ⟨.bool (decide (a ≠ b)), fun W _ _ _ _ _ => ?_, by simp [RelT, Rel]⟩
  have := run_neq_bool (P := P) W t a b ht.out
  simp only [execOp, ev_v r hx, ev_v r hy, eqGuard_at_bool, Sem.run_bind, Sem.run_pure, Result.andThen_ok, this]
  cases a <;> cases b <;> rfl

/-! slices that are only read -/
theorem TSl.elem {t e sz : TypeId} [ht : TSl P t e sz] : P.underlying t = some (.slice (P.elem t)) ∧ ∀ W, (sizeOf (P.elem t)).run P W = .ok sz W := by
  obtain ⟨h1, h2⟩ := ht.out
  have : P.elem t = e := by simp [Program.elem, h1]
  rw [this]
  refine ⟨h1, fun W => ?_⟩
  obtain ⟨i, hi, hn⟩ := Option.map_eq_some_iff.1 h2
  simp [sizeOf, typeInfo, hi, hn]

theorem cut_si {w : World} {ok : Bool → Nat → Prop} {f : Bool} {k : IntKind} {l : List Int} {A : Option Addr} {c lo hi : Nat} (h : Rel w ok (.si f k l) (.slice A l.length c)) (h1 : lo ≤ hi) (h2 : hi ≤ l.length) : Rel w ok (.si f k ((l.take hi).drop lo)) (sliced A lo hi c 1) := by
  simp only [Rel] at h ⊢
  obtain ⟨A', c', e, hc, hm, hl, hcell⟩ := h
  simp only [Value.slice.injEq, true_and] at e
  obtain ⟨rfl, rfl⟩ := e
  have hlen : ((l.take hi).drop lo).length = hi - lo := by simp; omega
  refine ⟨_, _, by rw [hlen]; rfl, by omega, by omega, by omega, fun hp => ?_⟩
  obtain ⟨b, o, rfl, hok, hx⟩ := hcell (by omega)
  refine ⟨b, o + lo, ?_, hok, fun j x hj => ?_⟩
  · rw [if_neg (by omega)]; simp [Addr.add_lit]
  · rw [Nat.add_assoc]
    refine hx (lo + j) x ?_
    rw [List.getElem?_drop, List.getElem?_take] at hj
    split at hj
    · exact hj
    · cases hj

theorem y_slice_si {x a b : Operand} {t ty e : TypeId} {f : Bool} {k ik jk : IntKind} {l : List Int} {lo hi : Int} [ht : TSl P t e 1] (hx : evT E x = some (.p (.si f k l))) (ha : evT E a = some (.p (.v (.int ik lo)))) (hb : evT E b = some (.p (.v (.int jk hi)))) (h0 : 0 ≤ lo) (h1 : lo ≤ hi) (h2 : hi ≤ l.length) :
    Yl P (.slice t x (some a) (some b) none) ty E H (.p (.si f k ((l.take hi.toNat).drop lo.toNat))) .no := by
  unfold Yl
  intro _ _ _ _ _ _ r
  obtain ⟨h3, h4⟩ := ht.elem
  have h := ev_rel r hx
  have hx0 := h
  simp only [RelT, Rel] at h
  obtain ⟨A, c, e1, hc, hm, hl, hcell⟩ := h
  rw [e1] at hx0
  refine ⟨_, fun W _ _ _ _ _ => ?_, by simp only [RelT] at hx0 ⊢; exact cut_si hx0 (lo := lo.toNat) (hi := hi.toNat) (by omega) (by omega)⟩
  simp only [execOp, e1, Option.map_some, Option.map_none, ev_v r ha, ev_v r hb, Sem.run_bind, run_sliceAt_slice _ _ _ _ _ _ h3, run_slice_lh W t A l.length c h3 ik jk lo hi h0 h1 (by omega), h4, Result.andThen_ok, Sem.run_pure]
theorem y_slice_si_h {x b : Operand} {t ty e : TypeId} {f : Bool} {k jk : IntKind} {l : List Int} {hi : Int} [ht : TSl P t e 1] (hx : evT E x = some (.p (.si f k l))) (hb : evT E b = some (.p (.v (.int jk hi)))) (h0 : 0 ≤ hi) (h2 : hi ≤ l.length) :
    Yl P (.slice t x none (some b) none) ty E H (.p (.si f k (l.take hi.toNat))) .no := by
  unfold Yl
  intro _ _ _ _ _ _ r
  obtain ⟨h3, h4⟩ := ht.elem
  have h := ev_rel r hx
  have hx0 := h
  simp only [RelT, Rel] at h
  obtain ⟨A, c, e1, hc, hm, hl, hcell⟩ := h
  rw [e1] at hx0
  refine ⟨_, fun W _ _ _ _ _ => ?_, by simp only [RelT] at hx0 ⊢; have := cut_si hx0 (lo := 0) (hi := hi.toNat) (by omega) (by omega); rwa [List.drop_zero] at this⟩
  simp only [execOp, e1, Option.map_some, Option.map_none, ev_v r hb, Sem.run_bind, run_sliceAt_slice _ _ _ _ _ _ h3, run_slice_h W t A l.length c h3 jk hi h0 (by omega), h4, Result.andThen_ok, Sem.run_pure]
theorem y_slice_si_l {x a : Operand} {t ty e : TypeId} {f : Bool} {k ik : IntKind} {l : List Int} {lo : Int} [ht : TSl P t e 1] (hx : evT E x = some (.p (.si f k l))) (ha : evT E a = some (.p (.v (.int ik lo)))) (h0 : 0 ≤ lo) (h2 : lo ≤ l.length) :
    Yl P (.slice t x (some a) none none) ty E H (.p (.si f k (l.drop lo.toNat))) .no := by
  unfold Yl
  intro _ _ _ _ _ _ r
  obtain ⟨h3, h4⟩ := ht.elem
  have h := ev_rel r hx
  have hx0 := h
  simp only [RelT, Rel] at h
  obtain ⟨A, c, e1, hc, hm, hl, hcell⟩ := h
  rw [e1] at hx0
  refine ⟨_, fun W _ _ _ _ _ => ?_, by simp only [RelT] at hx0 ⊢; have := cut_si hx0 (lo := lo.toNat) (hi := l.length) (by omega) (by omega); rwa [List.take_length] at this⟩
  simp only [execOp, e1, Option.map_some, Option.map_none, ev_v r ha, Sem.run_bind, run_sliceAt_slice _ _ _ _ _ _ h3, run_slice_l W t A l.length c h3 ik lo h0 (by omega), h4, Result.andThen_ok, Sem.run_pure]

/-! strings -/
def bt (s : ByteArray) (i : Int) : Int := if h : i.toNat < s.size then ((s[i.toNat]'h).toNat : Int) else 0
theorem y_index_str {x i : Operand} {t ty : TypeId} {s : ByteArray} {k : IntKind} {n : Int} [ht : TStr P t] (hx : evT E x = some (.p (.v (.string s)))) (hi : evT E i = some (.p (.v (.int k n)))) (h0 : 0 ≤ n) (h1 : n < s.size) : Yl P (.index t x i) ty E H (.p (.v (.int .u8 (bt s n)))) .no := by
  unfold Yl
  intro _ _ _ _ _ _ r
  have hlt : n.toNat < s.size := by omega
  refine ⟨.int .u8 (bt s n), fun W _ _ _ _ _ => ?_, by simp [RelT, Rel]⟩
  have := run_index_string (P := P) W t s k n ht.out
  simp [execOp, ev_v r hx, ev_v r hi, this, h0, h1, bt, hlt]
theorem y_slice_str {x a b : Operand} {t ty : TypeId} {s : ByteArray} {ik jk : IntKind} {lo hi : Int} [ht : TStr P t] (hx : evT E x = some (.p (.v (.string s)))) (ha : evT E a = some (.p (.v (.int ik lo)))) (hb : evT E b = some (.p (.v (.int jk hi)))) (h0 : 0 ≤ lo) (h1 : lo ≤ hi) (h2 : hi ≤ s.size) : Yl P (.slice t x (some a) (some b) none) ty E H (.p (.v (.string (s.extract lo.toNat hi.toNat)))) .no := by
  unfold Yl
  intro _ _ _ _ _ _ r
  exact ⟨.string (s.extract lo.toNat hi.toNat), fun W _ _ _ _ _ => by simp only [execOp, Option.map_some, Option.map_none, ev_v r hx, ev_v r ha, ev_v r hb, Sem.run_bind, run_sliceAt_string W t _ _ _ _ ht.out, run_slice_string W t s ik jk lo hi ht.out h0 h1 h2, Result.andThen_ok, Sem.run_pure], by simp only [RelT, Rel]⟩
theorem y_slice_str_l {x a : Operand} {t ty : TypeId} {s : ByteArray} {ik : IntKind} {lo : Int} [ht : TStr P t] (hx : evT E x = some (.p (.v (.string s)))) (ha : evT E a = some (.p (.v (.int ik lo)))) (h0 : 0 ≤ lo) (h2 : lo ≤ s.size) : Yl P (.slice t x (some a) none none) ty E H (.p (.v (.string (s.extract lo.toNat s.size)))) .no := by
  unfold Yl
  intro _ _ _ _ _ _ r
  exact ⟨.string (s.extract lo.toNat s.size), fun W _ _ _ _ _ => by simp only [execOp, Option.map_some, Option.map_none, ev_v r hx, ev_v r ha, Sem.run_bind, run_sliceAt_string W t _ _ _ _ ht.out, run_slice_string_l W t s ht.out ik lo h0 h2, Result.andThen_ok, Sem.run_pure], by simp only [RelT, Rel]⟩
theorem y_slice_str_h {x b : Operand} {t ty : TypeId} {s : ByteArray} {jk : IntKind} {hi : Int} [ht : TStr P t] (hx : evT E x = some (.p (.v (.string s)))) (hb : evT E b = some (.p (.v (.int jk hi)))) (h0 : 0 ≤ hi) (h2 : hi ≤ s.size) : Yl P (.slice t x none (some b) none) ty E H (.p (.v (.string (s.extract 0 hi.toNat)))) .no := by
  unfold Yl
  intro _ _ _ _ _ _ r
  exact ⟨.string (s.extract 0 hi.toNat), fun W _ _ _ _ _ => by simp only [execOp, Option.map_some, Option.map_none, ev_v r hx, ev_v r hb, Sem.run_bind, run_sliceAt_string W t _ _ _ _ ht.out, run_slice_string_h W t s ht.out jk hi h0 h2, Result.andThen_ok, Sem.run_pure], by simp only [RelT, Rel]⟩

/-! a struct is built -/
def evps (E : Env) : List (Nat × Operand) → Option (List (Nat × PV))
  | [] => some []
  | (i, o) :: os => match evT E o, evps E os with
    | some (.p x), some xs => some ((i, x) :: xs)
    | _, _ => none
def onesP : List (Nat × PV) → Bool
  | [] => true
  | (_, z) :: r => Av.ones (cellsP z) && onesP r

theorem evps_rel {okA : Acc} {w0 : World} {ρ : Nat → Value} {tmps : Array Value} {w : World} (r : Rep okA w0 N ρ E H tmps w) : ∀ {os : List (Nat × Operand)} {xs : List (Nat × PV)}, evps E os = some xs →
    (os.map fun (i, x) => (i, Act.eval ⟨tmps, []⟩ x)).map Prod.fst = xs.map Prod.fst ∧ Rels w (okF okA w0.heap.size ρ H w.heap.size) (xs.map Prod.snd) ((os.map fun (i, x) => (i, Act.eval ⟨tmps, []⟩ x)).map Prod.snd)
  | [], xs, h => by simp only [evps, Option.some.injEq] at h; subst h; simp [Rels]
  | (i, o) :: os, xs, h => by
    simp only [evps] at h
    split at h
    · rename_i x xs' hx hxs
      simp only [Option.some.injEq] at h
      subst h
      have h1 := ev_rel r hx
      simp only [RelT] at h1
      obtain ⟨h2, h3⟩ := evps_rel r hxs
      refine ⟨by simpa using h2, ?_⟩
      simp only [List.map_cons, Rels]
      exact ⟨_, _, rfl, h1, h3⟩
    · cases h

theorem y_build {t ty : TypeId} {parts : Array (Nat × Operand)} {cs zs : List PV} {pl : List (Nat × Nat)} {xs : List (Nat × PV)} [hp : TPl P t cs pl] (hx : evps E parts.toList = some xs) (h1 : onesP xs = true) (hf : fillP pl cs xs = some zs) : Yl P (.build t parts) ty E H (.p (.ag zs)) .no := by
  unfold Yl
  intro okA w0 N ρ tmps w r
  obtain ⟨z, rfl, hz1, hz2⟩ := hp.out
  obtain ⟨h2, h3⟩ := evps_rel r hx
  have h1' : ∀ p ∈ xs, Av.ones (cellsP p.2) = true := by
    clear hx hf h2 h3
    induction xs with
    | nil => simp
    | cons q qs ih =>
      obtain ⟨i, u⟩ := q
      simp only [onesP, Bool.and_eq_true] at h1
      intro p hp
      rcases List.mem_cons.1 hp with rfl | hp
      · exact h1.1
      · exact ih h1.2 p hp
  obtain ⟨us, hu1, hu2⟩ := fillP_rel (rels_exact z) h2 h3 h1' hf
  refine ⟨.agg us.toArray, fun W _ _ _ _ _ => ?_, by simp only [RelT, Rel]; exact ⟨us, rfl, hu2⟩⟩
  have := run_build (P := P) W t (parts.map fun (i, x) => (i, Act.eval ⟨tmps, []⟩ x)) us.toArray (by rw [hz2, ← hu1]; congr 1; simp)
  simp [execOp, this]

end

/-! ### Rows of the call's own -/
def kill (h : Nat) : Env → Option Env
  | [] => some []
  | (i, x) :: r => match kill h r with
    | some r' => bif x.says h then some ((i, .junk) :: r') else some ((i, x) :: r')
    | none => none
def delH (h : Nat) : Hp → Option Hp
  | [] => some []
  | (i, m) :: r => match delH h r with
    | some r' => bif Nat.beq i h then some r' else some ((i, m) :: r')
    | none => none

theorem kill_spec {h : Nat} : ∀ {E E0 : Env}, kill h E = some E0 → frE h E0 = true ∧ ∀ i x, lk i E0 = some x → ∃ x0, lk i E = some x0 ∧ (x = x0 ∨ x = .junk)
  | [], E0, he => by simp only [kill, Option.some.injEq] at he; subst he; exact ⟨rfl, fun i x hx => by simp [lk] at hx⟩
  | (j, z) :: r, E0, he => by
    simp only [kill] at he
    cases hr : kill h r with
    | none => rw [hr] at he; simp at he
    | some r' =>
      rw [hr] at he
      simp only at he
      obtain ⟨h1, h2⟩ := kill_spec hr
      cases hz : z.says h with
      | true =>
        rw [hz] at he
        simp only [cond_true, Option.some.injEq] at he
        subst he
        refine ⟨by simp [frE, h1, TV.says], fun i x hx => ?_⟩
        simp only [lk] at hx ⊢
        cases hij : Nat.beq i j with
        | true => rw [hij] at hx; simp only [cond_true, Option.some.injEq] at hx; exact ⟨z, by simp, .inr hx.symm⟩
        | false => rw [hij] at hx; simp only [cond_false] at hx; simpa using h2 i x hx
      | false =>
        rw [hz] at he
        simp only [cond_false, Option.some.injEq] at he
        subst he
        refine ⟨by simp [frE, h1, hz], fun i x hx => ?_⟩
        simp only [lk] at hx ⊢
        cases hij : Nat.beq i j with
        | true => rw [hij] at hx; simp only [cond_true, Option.some.injEq] at hx; exact ⟨z, by simp, .inl hx.symm⟩
        | false => rw [hij] at hx; simp only [cond_false] at hx; simpa using h2 i x hx

theorem delH_spec {h : Nat} : ∀ {H H0 : Hp}, delH h H = some H0 → ∀ i m, hk i H0 = some m → i ≠ h ∧ hk i H = some m
  | [], H0, he, i, m, hm => by simp only [delH, Option.some.injEq] at he; subst he; simp [hk] at hm
  | (j, z) :: r, H0, he, i, m, hm => by
    simp only [delH] at he
    cases hr : delH h r with
    | none => rw [hr] at he; simp at he
    | some r' =>
      rw [hr] at he
      simp only at he
      cases hj : Nat.beq j h with
      | true =>
        rw [hj] at he
        simp only [cond_true, Option.some.injEq] at he
        subst he
        obtain ⟨h1, h2⟩ := delH_spec hr i m hm
        have := Nat.eq_of_beq_eq_true hj
        refine ⟨h1, ?_⟩
        rw [hk_other (by omega)]
        exact h2
      | false =>
        rw [hj] at he
        simp only [cond_false, Option.some.injEq] at he
        subst he
        rcases hk_cons hm with ⟨rfl, rfl⟩ | ⟨hn, hm'⟩
        · exact ⟨fun e => by subst e; simp at hj, hk_same⟩
        · obtain ⟨h1, h2⟩ := delH_spec hr i m hm'
          exact ⟨h1, by rw [hk_other hn]; exact h2⟩

section
variable {okA : Acc} {w0 : World} {N : Nat} {ρ : Nat → Value} {E : Env} {H : Hp} {tmps : Array Value} {w w' : World}

theorem Rep.kill (r : Rep okA w0 N ρ E H tmps w) {h : Nat} {E0 : Env} (he : Av.kill h E = some E0) : Rep okA w0 N ρ E0 H tmps w :=
  ⟨r.below, r.own, r.heap, r.disj, fun i x hx => by
    obtain ⟨x0, h1, h2⟩ := (kill_spec he).2 i x hx
    obtain ⟨y, hy, hr⟩ := r.env i x0 h1
    rcases h2 with rfl | rfl
    · exact ⟨y, hy, hr⟩
    · exact ⟨y, hy, by simp only [RelT]⟩, r.size, r.lent, r.small⟩

theorem blk_own {v : Value} {base : Nat} {e : TypeId} {size n : Nat} {xs : List Value} (h : w.ownsRow base e size v n xs) : v.ownBlock = blk v := by
  rcases h.2 with ⟨rfl, _⟩ | ⟨g, cap, cur, rfl, _⟩ <;> rfl

theorem sealed_vi (r : Rep okA w0 N ρ E H tmps w) {h : Nat} {e : TypeId} {k : IntKind} {l : List Int} (hm : hk h H = some (.vi e k l)) (hp : pH h = false) {H0 : Hp} (hd : delH h H = some H0) :
    Rep okA w0 N ρ E H0 tmps w ∧ Rel w (okF okA w0.heap.size ρ H0 w.heap.size) (.si true k l) (ρ h) := by
  refine ⟨r.subH (fun i m hi => (delH_spec hd i m hi).2), ?_⟩
  have hb := r.heap h _ hm
  have hbd : ∀ b, blk (ρ h) = some b → w0.heap.size ≤ b ∧ b < w.heap.size := fun b hb' => ⟨(r.own _ _ b hm hb').elim id (fun h => by rw [hp] at h; cases h.1), (hb.bounds (b := b) hb').2⟩
  simp only [RelB] at hb
  refine seal_vi hb.1 hb.2 (fun b hb' => ⟨(hbd b hb').2, fun h' m' hm' e => ?_, .inl (hbd b hb').1⟩)
  obtain ⟨h1, h2⟩ := delH_spec hd h' m' hm'
  exact r.disj h h' _ m' b hm h2 (Ne.symm h1) hb' e
theorem sealed_vs (r : Rep okA w0 N ρ E H tmps w) {h : Nat} {e : TypeId} {sz : Nat} {es : List PV} (hm : hk h H = some (.vs e sz es)) (hp : pH h = false) {H0 : Hp} (hd : delH h H = some H0) :
    Rep okA w0 N ρ E H0 tmps w ∧ Rel w (okF okA w0.heap.size ρ H0 w.heap.size) (.ss true sz es) (ρ h) := by
  refine ⟨r.subH (fun i m hi => (delH_spec hd i m hi).2), ?_⟩
  have hb := r.heap h _ hm
  have hbd : ∀ b, blk (ρ h) = some b → w0.heap.size ≤ b ∧ b < w.heap.size := fun b hb' => ⟨(r.own _ _ b hm hb').elim id (fun h => by rw [hp] at h; cases h.1), (hb.bounds (b := b) hb').2⟩
  simp only [RelB] at hb
  obtain ⟨ys, h3, h4, h5, _, h6⟩ := hb
  refine seal_vs (Rels.mono (fun f b hb => ⟨hb.1, fun h' m' hm' => hb.2.1 h' m' (delH_spec hd h' m' hm').2, hb.2.2⟩) (fun _ _ _ => rfl) _ _ h3) h4 h5 h6 (fun b hb' => ⟨(hbd b hb').2, fun h' m' hm' e => ?_, .inl (hbd b hb').1⟩)
  obtain ⟨h1, h2⟩ := delH_spec hd h' m' hm'
  exact r.disj h h' _ m' b hm h2 (Ne.symm h1) hb' e

/-- A temporary's row is from here on only read. -/
theorem Rep.set_env (r : Rep okA w0 N ρ E H tmps w) {i : Nat} {x0 x : TV} (h0 : lk i E = some x0) (h : ∀ y, RelT w (okF okA w0.heap.size ρ H w.heap.size) ρ x0 y → RelT w (okF okA w0.heap.size ρ H w.heap.size) ρ x y) : Rep okA w0 N ρ ((i, x) :: E) H tmps w :=
  ⟨r.below, r.own, r.heap, r.disj, fun j z hz => by
    simp only [lk] at hz
    cases hij : Nat.beq j i with
    | true =>
      rw [hij] at hz
      simp only [cond_true, Option.some.injEq] at hz
      subst hz
      have := Nat.eq_of_beq_eq_true hij
      subst this
      obtain ⟨y, hy, hr⟩ := r.env _ _ h0
      exact ⟨y, hy, h y hr⟩
    | false => rw [hij] at hz; simp only [cond_false] at hz; exact r.env j z hz, r.size, r.lent, r.small⟩
end

section
variable {P : Program} {N : Nat} {E : Env} {H : Hp} {Q : Exit → Env → Hp → Prop} {ops : Array Oper} {rest : List Oper} {plan : List (Nat × Bool)} {ph : Bool} {St : List Nat}

theorem seal_L {i h : Nat} {e : TypeId} {k : IntKind} {l : List Int} {H0 : Hp} (hE : lk i E = some (.vec h)) (hm : hk h H = some (.vi e k l)) (hp : pH h = false) (hd : delH h H = some H0) (kk : TrL P N ops rest ((i, .p (.si true k l)) :: E) H0 Q) : TrL P N ops rest E H Q := by
  unfold TrL at kk ⊢
  intro okA w0 ρ tmps w r
  obtain ⟨r1, hr⟩ := sealed_vi r hm hp hd
  exact kk okA w0 ρ tmps w (r1.set_env hE (fun y hy => by simp only [RelT] at hy ⊢; subst hy; exact hr))
theorem seal_C {c : Code} {i h : Nat} {e : TypeId} {k : IntKind} {l : List Int} {H0 : Hp} (hE : lk i E = some (.vec h)) (hm : hk h H = some (.vi e k l)) (hp : pH h = false) (hd : delH h H = some H0) (kk : Tr P N c ((i, .p (.si true k l)) :: E) H0 Q) : Tr P N c E H Q := by
  unfold Tr at kk ⊢
  intro okA w0 ρ tmps w r
  obtain ⟨r1, hr⟩ := sealed_vi r hm hp hd
  exact kk okA w0 ρ tmps w (r1.set_env hE (fun y hy => by simp only [RelT] at hy ⊢; subst hy; exact hr))
theorem seal_Ls {i h : Nat} {e : TypeId} {sz : Nat} {es : List PV} {H0 : Hp} (hE : lk i E = some (.vec h)) (hm : hk h H = some (.vs e sz es)) (hp : pH h = false) (hd : delH h H = some H0) (kk : TrL P N ops rest ((i, .p (.ss true sz es)) :: E) H0 Q) : TrL P N ops rest E H Q := by
  unfold TrL at kk ⊢
  intro okA w0 ρ tmps w r
  obtain ⟨r1, hr⟩ := sealed_vs r hm hp hd
  exact kk okA w0 ρ tmps w (r1.set_env hE (fun y hy => by simp only [RelT] at hy ⊢; subst hy; exact hr))
theorem seal_Cs {c : Code} {i h : Nat} {e : TypeId} {sz : Nat} {es : List PV} {H0 : Hp} (hE : lk i E = some (.vec h)) (hm : hk h H = some (.vs e sz es)) (hp : pH h = false) (hd : delH h H = some H0) (kk : Tr P N c ((i, .p (.ss true sz es)) :: E) H0 Q) : Tr P N c E H Q := by
  unfold Tr at kk ⊢
  intro okA w0 ρ tmps w r
  obtain ⟨r1, hr⟩ := sealed_vs r hm hp hd
  exact kk okA w0 ρ tmps w (r1.set_env hE (fun y hy => by simp only [RelT] at hy ⊢; subst hy; exact hr))

/-- A row of the call's own, made anew as handle d, or put behind handle h: what the laws of the base leave. -/
theorem Rep.row_new {okA : Acc} {w0 : World} {ρ : Nat → Value} {tmps : Array Value} {w w' : World} (r : Rep okA w0 N ρ E H tmps w) {d : Nat} {m : MB} {y : Value} (hg : w.grownBy w' none) (hy : ∀ b, blk y = some b → w.heap.size ≤ b) (hE : frE d E = true) (hp : pH d = false)
    (hm : (∀ f b, okF okA w0.heap.size ρ H w.heap.size f b → okF okA w0.heap.size (upd ρ d y) ((d, m) :: H) w'.heap.size f b) → RelB w' (okF okA w0.heap.size (upd ρ d y) ((d, m) :: H) w'.heap.size) 0 m y) :
    Rep okA w0 N (upd ρ d y) E ((d, m) :: H) tmps w' :=
  r.at_ ⟨hg.os, hg.tape, hg.output, hg.size, fun k hk _ => hg.block k (by have := r.below.size; omega) (by simp)⟩ (fun b hb _ => hg.block b hb (by simp)) (fun b hb => .inl (hy b hb)) (.inr hE) (.inr hp) hm

class TMk (P : Program) (t : TypeId) (e : outParam TypeId) (k : outParam IntKind) (bytes : outParam Nat) : Prop where
  out : P.underlying t = some (.slice e) ∧ (P.info? e).map (fun i => (i.zero, i.size, i.bytes)) = some (some (.int k 0), 1, bytes) ∧ 0 < bytes

theorem e_make {d : Nat} {t ty e : TypeId} {a b : Operand} {k ik jk : IntKind} {bytes : Nat} {n : Int} [ht : TMk P t e k bytes] (ha : evT E a = some (.p (.v (.int ik n)))) (hb : evT E b = some (.p (.v (.int jk n)))) (h0 : 0 ≤ n) (h1 : n * bytes ≤ 281474976710655) (hE : frE d E = true) (hN : Nat.blt d N = true) :
    Eff P N (some d) (.makeSlice t a b) ty E H ((d, .vec d) :: E) ((d, .vi e k (List.replicate n.toNat 0)) :: H) [d] := by
  unfold Eff
  intro okA w0 ρ tmps w r
  obtain ⟨ht1, ht2, ht3⟩ := ht.out
  obtain ⟨i, hi, hz⟩ := Option.map_eq_some_iff.1 ht2
  simp only [Prod.mk.injEq] at hz
  obtain ⟨hz1, hz2, hz3⟩ := hz
  have hle : n ≤ 281474976710655 := by
    have : n * 1 ≤ n * (bytes : Int) := Int.mul_le_mul_of_nonneg_left (by omega) h0
    omega
  obtain ⟨m, rfl⟩ := Int.eq_ofNat_of_zero_le h0
  have h1' : i.bytes * m ≤ 281474976710656 := by
    rw [hz3]
    have : ((bytes * m : Nat) : Int) ≤ 281474976710655 := by rw [Int.natCast_mul, Int.mul_comm]; exact h1
    omega
  obtain ⟨w', hrun, hown, hgr⟩ := run_make_full (P := P) w 0 t e i (.int k 0) 1 ht1 hi hz1 hz2 ik jk m h1' (by simp only [maxLen]; omega) (Nat.zero_le _)
  have hcells : (madeCells (Value.int k 0).cells (m * 1)).toList = nums k (List.replicate m 0) := by
    simp only [madeCells, Value.cells, nums, Nat.mul_one, List.map_replicate]
    apply List.ext_getElem
    · simp
    · intro j h1 h2
      simp [Nat.mod_one]
  rw [hcells] at hown
  have hr := r.row_new (d := d) (m := .vi e k (List.replicate m 0)) (y := .slice (some ⟨w.heap.size, 0, none⟩) m m) hgr (fun b hb => by simp only [blk, Option.some.injEq] at hb; omega) hE (pH_lt r hN) (fun _ => by
    simp only [RelB, List.length_replicate]
    exact ⟨hown, by simp only [lim]; omega⟩)
  refine ⟨.value (.slice (some ⟨w.heap.size, 0, none⟩) m m), _, _, w', fun _ _ _ => ?_, .inl rfl, hr.put (Nat.le_of_ble_eq_true hN) (x := .vec d) ?_, fun b hb _ => hgr.block b hb (by simp), hgr.size, fun h hh => upd_other (by simpa using hh), old_cons, fun h hh b hb => .inl (by simp only [List.mem_singleton] at hh; subst hh; rw [upd_same] at hb; simp only [blk, Option.some.injEq] at hb; omega)⟩
  · simp only [execOp, ev_v r ha, ev_v r hb, Sem.run_bind, hrun, Result.andThen_ok, Sem.run_pure]
  · simp only [RelT, upd_same]

/-- 'var out []T': a row of the call's own that is still nil. -/
theorem e_nil_vi {d : Nat} {ty : TypeId} (e : TypeId) (k : IntKind) (hE : frE d E = true) (hN : Nat.blt d N = true) :
    Eff P N (some d) (.assign (.const (.slice none 0 0))) ty E H ((d, .vec d) :: E) ((d, .vi e k []) :: H) [d] := by
  unfold Eff
  intro okA w0 ρ tmps w r
  have hr := r.row_new (w' := w) (d := d) (m := .vi e k []) (y := .slice none 0 0) ⟨rfl, rfl, rfl, Nat.le_refl _, fun _ _ _ => rfl⟩ (fun b hb => by simp [blk] at hb) hE (pH_lt r hN) (fun _ => by
    simp only [RelB, List.length_nil]
    exact ⟨World.ownsRow_nil w _ e 1, by simp [lim]⟩)
  exact ⟨.value (.slice none 0 0), _, _, w, fun _ _ _ => by simp [execOp, Act.eval], .inl rfl, hr.put (Nat.le_of_ble_eq_true hN) (x := .vec d) (by simp only [RelT, upd_same]), fun _ _ _ => rfl, Nat.le_refl _, fun h hh => upd_other (by simpa using hh), old_cons, fun h hh b hb => by simp only [List.mem_singleton] at hh; subst hh; rw [upd_same] at hb; simp [blk] at hb⟩
theorem e_nil_vs {d : Nat} {ty : TypeId} (e : TypeId) (sz : Nat) (hE : frE d E = true) (hN : Nat.blt d N = true) :
    Eff P N (some d) (.assign (.const (.slice none 0 0))) ty E H ((d, .vec d) :: E) ((d, .vs e sz []) :: H) [d] := by
  unfold Eff
  intro okA w0 ρ tmps w r
  have hr := r.row_new (w' := w) (d := d) (m := .vs e sz []) (y := .slice none 0 0) ⟨rfl, rfl, rfl, Nat.le_refl _, fun _ _ _ => rfl⟩ (fun b hb => by simp [blk] at hb) hE (pH_lt r hN) (fun _ => by
    simp only [RelB, List.length_nil]
    exact ⟨[], by simp only [Rels], by simp, World.ownsRow_nil w _ e sz, by simp [flat], by simp [lim]⟩)
  exact ⟨.value (.slice none 0 0), _, _, w, fun _ _ _ => by simp [execOp, Act.eval], .inl rfl, hr.put (Nat.le_of_ble_eq_true hN) (x := .vec d) (by simp only [RelT, upd_same]), fun _ _ _ => rfl, Nat.le_refl _, fun h hh => upd_other (by simpa using hh), old_cons, fun h hh b hb => by simp only [List.mem_singleton] at hh; subst hh; rw [upd_same] at hb; simp [blk] at hb⟩
end

section
variable {P : Program} {N : Nat} {E : Env} {H : Hp} {Q : Exit → Env → Hp → Prop} {ops : Array Oper} {rest : List Oper} {plan : List (Nat × Bool)} {ph : Bool} {St : List Nat}

class TAp (P : Program) (t : TypeId) (e sz bytes : outParam Nat) : Prop where
  out : P.underlying t = some (.slice e) ∧ ∃ i z, P.info? e = some i ∧ i.zero = some z ∧ i.size = sz ∧ i.bytes = bytes ∧ z.cells.size = sz ∧ 0 < sz ∧ 0 < bytes

/-- What is appended: its cells are known. -/
def Src (P : Program) (E : Env) (H : Hp) (x : Operand) (sz : Nat) (es : List PV) : Prop :=
  ∀ okA w0 N ρ tmps w, Rep okA w0 N ρ E H tmps w → ∃ A c ys, Act.eval ⟨tmps, []⟩ x = .slice A es.length c ∧ Rels w (okF okA w0.heap.size ρ H w.heap.size) es ys ∧ (∀ z ∈ ys, z.cells.size = sz) ∧
    (0 < es.length → ∃ b o, A = some ⟨b, o, none⟩ ∧ ∀ j u, (flat ys)[j]? = some u → w.cell? ⟨b, o + j, none⟩ = some u) ∧ (∀ u ∈ flat ys, u.oneCell' = true)

def ints (k : IntKind) (l : List Int) : List PV := l.map fun x => .v (.int k x)
theorem rels_ints {w : World} {ok : Bool → Nat → Prop} {k : IntKind} : ∀ {l : List Int}, Rels w ok (ints k l) (nums k l)
  | [] => by simp [ints, nums, Rels]
  | x :: l => by simp only [ints, nums, List.map_cons, Rels, Rel]; exact ⟨_, _, rfl, rfl, rels_ints⟩
theorem flat_nums {k : IntKind} : ∀ {l : List Int}, flat (nums k l) = nums k l
  | [] => rfl
  | x :: l => by
    have := flat_nums (k := k) (l := l)
    simp only [flat, nums, List.map_cons, List.flatMap_cons, Value.cells] at this ⊢
    rw [this]; rfl

theorem src_vi {x : Operand} {h : Nat} {e : TypeId} {k : IntKind} {l : List Int} (hx : evT E x = some (.vec h)) (hm : hk h H = some (.vi e k l)) : Src P E H x 1 (ints k l) := by
  intro okA w0 N ρ tmps w r
  have e0 := ev_rel r hx
  simp only [RelT] at e0
  have hb := r.heap h _ hm
  simp only [RelB] at hb
  have hlen : (ints k l).length = l.length := by simp [ints]
  have h1 : ∀ z ∈ nums k l, z.cells.size = 1 := by simp [nums, Value.cells]
  have h2 : ∀ u ∈ flat (nums k l), u.oneCell' = true := by rw [flat_nums]; simp [nums, Value.oneCell']
  rcases hb.1.2 with ⟨h3, h4⟩ | ⟨g, cap, cur, h3, _⟩
  · exact ⟨none, 0, nums k l, by rw [e0, h3, hlen, h4], rels_ints, h1, fun hp => by omega, h2⟩
  · refine ⟨_, cap, nums k l, by rw [e0, h3, hlen], rels_ints, h1, fun _ => ⟨g, 0, rfl, fun j u hj => ?_⟩, h2⟩
    rw [flat_nums] at hj
    have := hb.1.cells (g := g) (by rw [h3]; rfl) j u hj
    rwa [Addr.add_lit] at this
theorem src_si {x : Operand} {f : Bool} {k : IntKind} {l : List Int} (hx : evT E x = some (.p (.si f k l))) : Src P E H x 1 (ints k l) := by
  intro okA w0 N ρ tmps w r
  have e0 := ev_rel r hx
  simp only [RelT, Rel] at e0
  obtain ⟨A, c, e1, _, _, _, hcell⟩ := e0
  have hlen : (ints k l).length = l.length := by simp [ints]
  refine ⟨A, c, nums k l, by rw [e1, hlen], rels_ints, by simp [nums, Value.cells], fun hp => ?_, by rw [flat_nums]; simp [nums, Value.oneCell']⟩
  obtain ⟨b, o, hA, _, hx1⟩ := hcell (by omega)
  refine ⟨b, o, hA, fun j u hj => ?_⟩
  rw [flat_nums] at hj
  simp only [nums, List.getElem?_map] at hj
  obtain ⟨v, hv, rfl⟩ := Option.map_eq_some_iff.1 hj
  exact hx1 j v hv
theorem src_vs {x : Operand} {h sz : Nat} {e : TypeId} {es : List PV} (hx : evT E x = some (.vec h)) (hm : hk h H = some (.vs e sz es)) : Src P E H x sz es := by
  intro okA w0 N ρ tmps w r
  have e0 := ev_rel r hx
  simp only [RelT] at e0
  have hb := r.heap h _ hm
  simp only [RelB] at hb
  obtain ⟨ys, h3, h4, h5, h6, _⟩ := hb
  rcases h5.2 with ⟨h7, h8⟩ | ⟨g, cap, cur, h7, _⟩
  · exact ⟨none, 0, ys, by rw [e0, h7, h8], h3, h4, fun hp => by omega, h6⟩
  · refine ⟨_, cap, ys, by rw [e0, h7], h3, h4, fun _ => ⟨g, 0, rfl, fun j u hj => ?_⟩, h6⟩
    have := h5.cells (g := g) (by rw [h7]; rfl) j u hj
    rwa [Addr.add_lit] at this
theorem ones_flat {w : World} {ok : Bool → Nat → Prop} : ∀ {es : List PV} {ys : List Value}, Rels w ok es ys → (∀ e ∈ es, Av.ones (cellsP e) = true) → ∀ u ∈ flat ys, u.oneCell' = true
  | [], ys, h, _, u, hu => by simp only [Rels] at h; subst h; simp [flat] at hu
  | e :: es, ys, h, h1, u, hu => by
    simp only [Rels] at h
    obtain ⟨y, zs, rfl, hy, hzs⟩ := h
    simp only [flat, List.flatMap_cons, List.mem_append] at hu
    rcases hu with hu | hu
    · exact (cellsP_rel hy (h1 e (by simp))).ones (h1 e (by simp)) u hu
    · exact ones_flat hzs (fun e he => h1 e (by simp [he])) u hu
theorem src_ss {x : Operand} {f : Bool} {sz : Nat} {es : List PV} (hx : evT E x = some (.p (.ss f sz es))) (h1 : ∀ e ∈ es, Av.ones (cellsP e) = true) : Src P E H x sz es := by
  intro okA w0 N ρ tmps w r
  have e0 := ev_rel r hx
  simp only [RelT, Rel] at e0
  obtain ⟨A, c, ys, e1, _, _, _, hr, hs, hcell⟩ := e0
  refine ⟨A, c, ys, e1, hr, hs, fun hp => ?_, ones_flat hr h1⟩
  obtain ⟨b, o, hA, _, hx1⟩ := hcell hp
  exact ⟨b, o, hA, hx1⟩

theorem run_append_none {t ty e : TypeId} {sz : Nat} {w : World} {base n cap : Nat} {v : Value} {xs : List Value} (ht : P.underlying t = some (.slice e)) (hi : (P.info? e).map (·.size) = some sz) (hown : w.ownsRow base e sz v n xs) :
    (Builtin.append_ #[t, t] ty #[v, .slice none 0 cap]).run P w = .ok v w := by
  obtain ⟨i, hi1, hi2⟩ := Option.map_eq_some_iff.1 hi
  rcases hown.2 with ⟨rfl, rfl⟩ | ⟨g, cap', cur, rfl, _, _, hle, _⟩
  · simp [Builtin.append_, run_underlying ht, sizeOf, typeInfo, hi1, Builtin.lenOf, Builtin.firstCells]
  · simp [Builtin.append_, run_underlying ht, sizeOf, typeInfo, hi1, Builtin.lenOf, Builtin.firstCells, hle, storeCells]

theorem flat_len {sz : Nat} : ∀ {ys : List Value}, (∀ z ∈ ys, z.cells.size = sz) → (flat ys).length = ys.length * sz
  | [], _ => by simp [flat]
  | y :: ys, h => by
    have h1 := h y (by simp)
    have ih := flat_len (ys := ys) (fun z hz => h z (by simp [hz]))
    simp only [flat, List.flatMap_cons, List.length_append, List.length_cons, Array.length_toList] at ih ⊢
    rw [ih, Nat.add_mul, h1]
    omega

/-- The base's append, over what an abstract row and an abstract source say. -/
theorem append_core {okA : Acc} {w0 : World} {ρ : Nat → Value} {tmps : Array Value} {w : World} (r : Rep okA w0 N ρ E H tmps w) {h : Nat} {t ty e : TypeId} {sz bytes n : Nat} {o x : Operand} {xs : List Value} {es : List PV} [ht : TAp P t e sz bytes]
    (hx : evT E o = some (.vec h)) (hown : w.ownsRow 0 e sz (ρ h) n xs) (hs : Src P E H x sz es) (hb : (n + es.length) * bytes ≤ 140737488355328) :
    ∃ v' w' ys, (∀ dst pos after guard, (execOp (Act.eval ⟨tmps, []⟩) ⟨dst, .call { callee := .builtin .append, args := #[o, x], argTypes := #[t, t] }, ty, pos, after, guard⟩).run P w = .ok (.value v') w') ∧
      Rels w (okF okA w0.heap.size ρ H w.heap.size) es ys ∧ (∀ z ∈ ys, z.cells.size = sz) ∧ (∀ u ∈ flat ys, u.oneCell' = true) ∧ w'.ownsRow 0 e sz v' (n + es.length) (xs ++ flat ys) ∧ w.grownBy w' (blk (ρ h)) ∧ (∀ b, blk v' = some b → w.heap.size ≤ b ∨ blk (ρ h) = some b) ∧ n + es.length < lim := by
  obtain ⟨ht1, i, z, hi, hz, hsz, hby, hzs, hsp, hbp⟩ := ht.out
  have e0 := ev_rel r hx
  simp only [RelT] at e0
  obtain ⟨A, c, ys, e1, hr, hs1, hcell, h1⟩ := hs okA w0 N ρ tmps w r
  have hlen := hr.length
  have hfl : (flat ys).length = es.length * sz := by rw [flat_len hs1, hlen]
  have hle : (n + es.length) * 1 ≤ (n + es.length) * bytes := Nat.mul_le_mul_left _ hbp
  have hlim : n + es.length < lim := by simp only [lim]; omega
  have hmax : n + es.length ≤ maxLen := by simp only [lim] at hlim; simp only [maxLen]; omega
  have hexec : ∀ (v' : Value) (w' : World), (Builtin.append_ #[t, t] ty #[ρ h, .slice A es.length c]).run P w = .ok v' w' → ∀ dst pos after guard, (execOp (Act.eval ⟨tmps, []⟩) ⟨dst, .call { callee := .builtin .append, args := #[o, x], argTypes := #[t, t] }, ty, pos, after, guard⟩).run P w = .ok (.value v') w' := by
    intro v' w' hrun dst pos after guard
    simp only [execOp, resolve, invoke, builtin, Sem.run_bind, Sem.run_pure, Result.andThen_ok, List.map_toArray, List.map_cons, List.map_nil, e0, e1, hrun]
  by_cases hp : 0 < es.length
  · obtain ⟨b, o', rfl, hc⟩ := hcell hp
    obtain ⟨v', w', hrun, ho', hg, _, hat⟩ := run_append_own_at (P := P) w 0 t ty e i z sz bytes ht1 hi hz hsz hby hzs hsp (ρ h) n xs hown ⟨b, o', none⟩ es.length c (flat ys) hfl (fun j u hj => by rw [Addr.add_lit]; exact hc j u hj) h1 hmax hb (Nat.zero_le _)
    rw [blk_own hown] at hg hat
    rw [blk_own ho'] at hat
    refine ⟨v', w', ys, hexec _ _ hrun, hr, hs1, h1, ho', hg, fun b' hb' => ?_, hlim⟩
    rcases hat with hat | hat
    · exact .inr (by rw [← hat]; exact hb')
    · rw [hat] at hb'; simp only [Option.some.injEq] at hb'; exact .inl (by omega)
  · have h0 : es.length = 0 := by omega
    have hys : ys = [] := List.eq_nil_of_length_eq_zero (by omega)
    subst hys
    cases A with
    | none =>
      have hrun := run_append_none (P := P) (t := t) (ty := ty) (cap := c) ht1 (by rw [hi]; simp [hsz]) hown
      rw [h0] at hexec ⊢
      exact ⟨ρ h, w, [], hexec _ _ hrun, hr, by simp, by simp [flat], by simpa [flat] using hown, ⟨rfl, rfl, rfl, Nat.le_refl _, fun _ _ _ => rfl⟩, fun b hb => .inr hb, by rw [h0] at hlim; exact hlim⟩
    | some a =>
      obtain ⟨v', w', hrun, ho', hg, _, hat⟩ := run_append_own_at (P := P) w 0 t ty e i z sz bytes ht1 hi hz hsz hby hzs hsp (ρ h) n xs hown a es.length c [] (by rw [h0]; simp) (fun j u hj => by simp at hj) (by simp) hmax hb (Nat.zero_le _)
      rw [blk_own hown] at hg hat
      rw [blk_own ho'] at hat
      refine ⟨v', w', [], hexec _ _ hrun, hr, by simp, by simp [flat], by simpa [flat] using ho', hg, fun b' hb' => ?_, hlim⟩
      rcases hat with hat | hat
      · exact .inr (by rw [← hat]; exact hb')
      · rw [hat] at hb'; simp only [Option.some.injEq] at hb'; exact .inl (by omega)

theorem e_app_vi {d h : Nat} {t ty e : TypeId} {bytes : Nat} {o x : Operand} {k : IntKind} {l l2 : List Int} {E0 : Env} [ht : TAp P t e 1 bytes] (hx : evT E o = some (.vec h)) (hp : pH h = false) (hm : hk h H = some (.vi e k l)) (hs : Src P E H x 1 (ints k l2)) (hb : (l.length + l2.length) * bytes ≤ 140737488355328) (hk0 : kill h E = some E0) (hN : Nat.blt d N = true) :
    Eff P N (some d) (.call { callee := .builtin .append, args := #[o, x], argTypes := #[t, t] }) ty E H ((d, .vec h) :: E0) ((h, .vi e k (l ++ l2)) :: H) [h] := by
  unfold Eff
  intro okA w0 ρ tmps w r
  have hB := r.heap h _ hm
  simp only [RelB] at hB
  obtain ⟨v', w', ys, hrun, hr, hs1, h1, ho', hg, hat, hlim⟩ := append_core r (t := t) (ty := ty) hx hB.1 hs (by simpa [ints] using hb)
  have hlen2 : (ints k l2).length = l2.length := by simp [ints]
  have hys : ys = nums k l2 := by
    clear hs hrun ho' hg hat h1 hs1 hlim hb hlen2
    induction l2 generalizing ys with
    | nil => simpa [ints, Rels, nums] using hr
    | cons x l2 ih =>
      simp only [ints, List.map_cons, Rels, Rel] at hr
      obtain ⟨y, zs, rfl, rfl, hz⟩ := hr
      simp only [nums, List.map_cons, List.cons.injEq, true_and]
      exact ih zs hz
  subst hys
  rw [flat_nums, hlen2] at ho'
  have hbk : ∀ b, b < w.heap.size → blk (ρ h) ≠ some b → w'.heap[b]? = w.heap[b]? := fun b hb1 hb2 => hg.block b hb1 (fun e => hb2 e.symm)
  have hr' := (r.kill hk0).at_ (w' := w') (h := h) (m := .vi e k (l ++ l2)) (y := v') ⟨hg.os, hg.tape, hg.output, hg.size, fun b hb1 hw => hbk b (Nat.lt_of_lt_of_le hb1 r.below.size) (fun e2 => by rcases (r.blk_lt hm e2).1 with h3 | h3; omega; exact hw h3.2)⟩
    (fun b hb1 hne => hbk b hb1 (hne _ hm)) (fun b hb1 => (hat b hb1).imp id (fun h2 => ⟨_, hm, h2⟩)) (.inr (kill_spec hk0).1) (.inr hp) (fun _ => by
      simp only [RelB, List.length_append]
      exact ⟨by rw [show nums k (l ++ l2) = nums k l ++ nums k l2 by simp [nums]]; exact ho', by rw [hlen2] at hlim; exact hlim⟩)
  refine ⟨.value v', _, _, w', fun _ _ _ => hrun _ _ _ _, .inl rfl, hr'.put (Nat.le_of_ble_eq_true hN) (x := .vec h) (by simp only [RelT, upd_same]), fun b hb1 hb2 => hbk b hb1 (hb2 h (by simp) _ hm), hg.size, fun k' hk' => upd_other (by simpa using hk'), old_cons, fun h' hh b hb1 => ?_⟩
  simp only [List.mem_singleton] at hh
  subst hh
  rw [upd_same] at hb1
  exact (hat b hb1).imp id (fun h2 => ⟨_, hm, h2⟩)

theorem flat_append {a b : List Value} : flat (a ++ b) = flat a ++ flat b := by simp [flat]
theorem Rels.append {w : World} {ok : Bool → Nat → Prop} : ∀ {xs : List PV} {ys : List Value} {xs' : List PV} {ys' : List Value}, Rels w ok xs ys → Rels w ok xs' ys' → Rels w ok (xs ++ xs') (ys ++ ys')
  | [], ys, xs', ys', h, h' => by simp only [Rels] at h; subst h; simpa using h'
  | x :: xs, ys, xs', ys', h, h' => by
    simp only [Rels] at h
    obtain ⟨y, zs, rfl, hy, hzs⟩ := h
    simp only [List.cons_append, Rels]
    exact ⟨y, zs ++ ys', rfl, hy, Rels.append hzs h'⟩

theorem e_app_vs {d h : Nat} {t ty e : TypeId} {sz bytes : Nat} {o x : Operand} {es es2 : List PV} {E0 : Env} [ht : TAp P t e sz bytes] (hx : evT E o = some (.vec h)) (hp : pH h = false) (hm : hk h H = some (.vs e sz es)) (hs : Src P E H x sz es2) (hb : (es.length + es2.length) * bytes ≤ 140737488355328) (hk0 : kill h E = some E0) (hN : Nat.blt d N = true) :
    Eff P N (some d) (.call { callee := .builtin .append, args := #[o, x], argTypes := #[t, t] }) ty E H ((d, .vec h) :: E0) ((h, .vs e sz (es ++ es2)) :: H) [h] := by
  unfold Eff
  intro okA w0 ρ tmps w r
  have hB := r.heap h _ hm
  simp only [RelB] at hB
  obtain ⟨ys0, hr0, hs0, hown, h10, hl0⟩ := hB
  obtain ⟨v', w', ys, hrun, hr, hs1, h1, ho', hg, hat, hlim⟩ := append_core r (t := t) (ty := ty) hx hown hs hb
  have hbk : ∀ b, b < w.heap.size → blk (ρ h) ≠ some b → w'.heap[b]? = w.heap[b]? := fun b hb1 hb2 => hg.block b hb1 (fun e => hb2 e.symm)
  have hst : ∀ f b, okF okA w0.heap.size ρ H w.heap.size f b → w'.heap[b]? = w.heap[b]? := fun f b hb => hbk b hb.1 (hb.2.1 h _ hm)
  have hr' := (r.kill hk0).at_ (w' := w') (h := h) (m := .vs e sz (es ++ es2)) (y := v') ⟨hg.os, hg.tape, hg.output, hg.size, fun b hb1 hw => hbk b (Nat.lt_of_lt_of_le hb1 r.below.size) (fun e2 => by rcases (r.blk_lt hm e2).1 with h3 | h3; omega; exact hw h3.2)⟩
    (fun b hb1 hne => hbk b hb1 (hne _ hm)) (fun b hb1 => (hat b hb1).imp id (fun h2 => ⟨_, hm, h2⟩)) (.inr (kill_spec hk0).1) (.inr hp) (fun hok => by
      simp only [RelB, List.length_append]
      refine ⟨ys0 ++ ys, (Rels.mono hok hst _ _ hr0).append (Rels.mono hok hst _ _ hr), fun z hz => ?_, by rw [flat_append]; exact ho', fun u hu => ?_, hlim⟩
      · rcases List.mem_append.1 hz with hz | hz
        · exact hs0 z hz
        · exact hs1 z hz
      · rw [flat_append] at hu
        rcases List.mem_append.1 hu with hu | hu
        · exact h10 u hu
        · exact h1 u hu)
  refine ⟨.value v', _, _, w', fun _ _ _ => hrun _ _ _ _, .inl rfl, hr'.put (Nat.le_of_ble_eq_true hN) (x := .vec h) (by simp only [RelT, upd_same]), fun b hb1 hb2 => hbk b hb1 (hb2 h (by simp) _ hm), hg.size, fun k' hk' => upd_other (by simpa using hk'), old_cons, fun h' hh b hb1 => ?_⟩
  simp only [List.mem_singleton] at hh
  subst hh
  rw [upd_same] at hb1
  exact (hat b hb1).imp id (fun h2 => ⟨_, hm, h2⟩)
end

section
variable {P : Program} {N : Nat} {E : Env} {H : Hp} {Q : Exit → Env → Hp → Prop} {ops : Array Oper} {rest : List Oper} {plan : List (Nat × Bool)} {ph : Bool} {St : List Nat}

theorem fill_full (size : Nat) : ∀ (vs : List Value) (i : Nat) (pre suf : List Value), (∀ v ∈ vs, v.cells.size = size) → pre.length = i * size → suf.length = vs.length * size →
    Instr.fill (fun i => some (i * size, size)) (pre ++ suf).toArray ((vs.zipIdx i).map fun p => (p.2, p.1)) = some (pre ++ flat vs).toArray
  | [], i, pre, suf, _, _, hs => by
    have : suf = [] := List.eq_nil_of_length_eq_zero (by simpa using hs)
    subst this
    simp [Instr.fill, flat]
  | v :: vs, i, pre, suf, hv, hp, hs => by
    have h1 := hv v (by simp)
    simp only [List.length_cons, Nat.add_mul, Nat.one_mul] at hs
    simp only [List.zipIdx_cons, List.map_cons, Instr.fill]
    rw [if_neg (by simp [h1, hp, hs])]
    have hf := foldl_set v.cells.toList 0 (pre ++ suf).toArray (i * size) (by simp [h1, hp, hs])
    have hz : v.cells.zipIdx.foldl (fun (cs : Array Value) (x : Value × Nat) => cs.setIfInBounds (i * size + x.2) x.1) (pre ++ suf).toArray = ((pre ++ v.cells.toList) ++ suf.drop size).toArray := by
      rw [← Array.foldl_toList, Array.toList_zipIdx]
      apply Array.ext'
      rw [hf]
      simp [h1, ← hp]
    have ih := fill_full size vs (i + 1) (pre ++ v.cells.toList) (suf.drop size) (fun x hx => hv x (by simp [hx])) (by simp [hp, h1, Nat.add_mul]) (by simp [hs])
    rw [← hz] at ih
    rw [show pre ++ flat (v :: vs) = (pre ++ v.cells.toList) ++ flat vs by simp [flat]]
    exact ih

class TBs (P : Program) (t : TypeId) (e sz : outParam Nat) : Prop where
  out : P.underlying t = some (.slice e) ∧ ∃ i z, P.info? e = some i ∧ i.zero = some z ∧ i.size = sz ∧ z.cells.size = sz ∧ 0 < sz

theorem run_buildSlice {t e sz : TypeId} [ht : TBs P t e sz] (w : World) (vs : List Value) (hv : ∀ v ∈ vs, v.cells.size = sz) (hl : vs.length * sz ≤ 16777216) :
    (Instr.buildSlice t vs.length (vs.zipIdx.map fun p => (p.2, p.1)).toArray).run P w = .ok (.slice (some ⟨w.heap.size, 0, none⟩) vs.length vs.length) (w.alloc (.cells (flat vs).toArray e)) := by
  obtain ⟨h1, i, z, hi, hz, hs, hzs, _⟩ := ht.out
  have hfill : ∀ zero : Array Value, Instr.fill (fun i => some (i * sz, sz)) ((Array.range (vs.length * sz)).map (zero[· % zero.size]!)) (vs.zipIdx.map fun p => (p.2, p.1)) = some (flat vs).toArray := by
    intro zero
    have := fill_full sz vs 0 [] ((Array.range (vs.length * sz)).map (zero[· % zero.size]!)).toList hv (by simp) (by simp)
    rwa [List.nil_append, Array.toArray_toList, List.nil_append] at this
  by_cases h0 : vs.length * sz = 0
  · have := hfill #[]
    simp [Instr.buildSlice, run_underlying h1, sizeOf, typeInfo, hi, hs, h0] at this ⊢
    simp [this, newRow]
  · have := hfill z.cells
    have h2 : ¬ 16777216 < vs.length * sz := by omega
    simp only [Instr.buildSlice, run_underlying h1, sizeOf, typeInfo, Sem.run_bind, Result.andThen_ok, run_program, hi, Sem.run_pure, hs, Sem.run_ite, zeroValue, hz]
    rw [if_neg (by simpa using h2), if_neg h0]
    simp only [Result.andThen_ok, this, newRow, Sem.run_bind, run_newObj, Sem.run_pure, World.alloc_eq]

/-- A slice literal, all elements given in their order. -/
theorem bs_core {okA : Acc} {w0 : World} {ρ : Nat → Value} {tmps : Array Value} {w : World} (r : Rep okA w0 N ρ E H tmps w) {d : Nat} {t ty e sz : TypeId} {m : MB} {parts : Array (Nat × Operand)} {es : List PV} {n : Nat} [ht : TBs P t e sz] (hi : parts.toList.map Prod.fst = List.range n) (hx : evs E (parts.toList.map Prod.snd) = some es) (hsz : ∀ ys, Rels w (okF okA w0.heap.size ρ H w.heap.size) es ys → ∀ z ∈ ys, z.cells.size = sz) (hl : n * sz ≤ 16777216) (hE : frE d E = true) (hp : pH d = false)
    (hm : ∀ ys w' ok, Rels w' ok es ys → w'.ownsRow 0 e sz (.slice (some ⟨w.heap.size, 0, none⟩) n n) n (flat ys) → RelB w' ok 0 m (.slice (some ⟨w.heap.size, 0, none⟩) n n)) :
    (∀ dst pos after guard, ∃ cs, (execOp (Act.eval ⟨tmps, []⟩) ⟨dst, .buildSlice t n parts, ty, pos, after, guard⟩).run P w = .ok (.value (.slice (some ⟨w.heap.size, 0, none⟩) n n)) (w.alloc (.cells cs e)) ∧ cs = (flat ((parts.toList.map Prod.snd).map (Act.eval ⟨tmps, []⟩))).toArray) ∧
    Rep okA w0 N (upd ρ d (.slice (some ⟨w.heap.size, 0, none⟩) n n)) E ((d, m) :: H) tmps (w.alloc (.cells (flat ((parts.toList.map Prod.snd).map (Act.eval ⟨tmps, []⟩))).toArray e)) := by
  have hr := evs_rel r hx
  have hv := hsz _ hr
  generalize hvs : (parts.toList.map Prod.snd).map (Act.eval ⟨tmps, []⟩) = vs at hr hv ⊢
  have hn : vs.length = n := by
    have := congrArg List.length hi
    simp only [List.length_map, List.length_range] at this
    rw [← hvs]; simp [this]
  subst hn
  refine ⟨fun dst pos after guard => ⟨_, ?_, rfl⟩, ?_⟩
  · have hparts : (parts.map fun (i, x) => (i, Act.eval ⟨tmps, []⟩ x)) = (vs.zipIdx.map fun p => (p.2, p.1)).toArray := by
      apply Array.ext'
      simp only [Array.toList_map]
      apply List.ext_getElem?
      intro j
      rw [← hvs]
      simp only [List.getElem?_map, List.getElem?_zipIdx]
      have hj := congrArg (fun l => l[j]?) hi
      simp only [List.getElem?_map] at hj
      cases hq : parts.toList[j]? with
      | none => simp
      | some q =>
        rw [hq] at hj
        simp only [Option.map_some] at hj
        have := (List.getElem?_eq_some_iff.1 hj.symm).2
        simp at this
        simp [this]
    simp only [execOp, hparts, Sem.run_bind, run_buildSlice (P := P) (t := t) w vs hv hl, Result.andThen_ok, Sem.run_pure]
  · refine r.row_new (d := d) (m := m) (World.grownBy_alloc w _ none) (fun b hb => by simp only [blk, Option.some.injEq] at hb; omega) hE hp (fun hok => ?_)
    refine hm vs _ _ (Rels.mono hok (fun f b hb => hao w _ b hb.1) _ _ hr) ⟨flat_len hv, .inr ⟨w.heap.size, vs.length, _, rfl, Nat.zero_le _, han w _, Nat.le_refl _, ?_, ?_, ?_⟩⟩
    · obtain ⟨_, i, z, _, _, _, _, h0⟩ := ht.out
      have : vs.length * 1 ≤ vs.length * sz := Nat.mul_le_mul_left _ h0
      simp only [maxLen]; omega
    · simp [flat_len hv]
    · rw [← flat_len hv]; simp

/-- Whole numbers of kind k. -/
def evI (E : Env) (k : IntKind) : List Operand → Option (List Int)
  | [] => some []
  | o :: os => match evT E o, evI E k os with
    | some (.p (.v (.int k' n))), some l => bif decide (k = k') then some (n :: l) else none
    | _, _ => none
theorem evI_spec {k : IntKind} : ∀ {os : List Operand} {l : List Int}, evI E k os = some l → evs E os = some (ints k l)
  | [], l, h => by simp only [evI, Option.some.injEq] at h; subst h; rfl
  | o :: os, l, h => by
    simp only [evI] at h
    split at h
    · rename_i k' n l' h1 h2
      cases hk : decide (k = k') with
      | false => rw [hk] at h; cases h
      | true =>
        rw [hk] at h
        simp only [cond_true, Option.some.injEq] at h
        subst h
        have := of_decide_eq_true hk
        subst this
        simp only [evs, h1, evI_spec h2]
        rfl
    · cases h
theorem rels_ints' {w : World} {ok : Bool → Nat → Prop} {k : IntKind} : ∀ {l : List Int} {ys : List Value}, Rels w ok (ints k l) ys → ys = nums k l
  | [], ys, h => by simpa [ints, Rels, nums] using h
  | x :: l, ys, h => by
    simp only [ints, List.map_cons, Rels, Rel] at h
    obtain ⟨y, zs, rfl, rfl, hz⟩ := h
    simp only [nums, List.map_cons, List.cons.injEq, true_and]
    exact rels_ints' hz

theorem e_bs_vi {d n : Nat} {t ty e : TypeId} {parts : Array (Nat × Operand)} {k : IntKind} {l : List Int} [ht : TBs P t e 1] (hi : parts.toList.map Prod.fst = List.range n) (hx : evI E k (parts.toList.map Prod.snd) = some l) (hl : Nat.ble n 16777216 = true) (hE : frE d E = true) (hN : Nat.blt d N = true) :
    Eff P N (some d) (.buildSlice t n parts) ty E H ((d, .vec d) :: E) ((d, .vi e k l) :: H) [d] := by
  unfold Eff
  intro okA w0 ρ tmps w r
  have hn : l.length = n := by
    have h1 := congrArg List.length hi
    have h2 := (evs_rel r (evI_spec hx)).length
    simp [ints] at h1 h2
    omega
  have hle := Nat.le_of_ble_eq_true hl
  obtain ⟨hrun, hr⟩ := bs_core (P := P) r (ty := ty) (d := d) (t := t) (m := .vi e k l) (sz := 1) hi (evI_spec hx) (fun ys hys => by rw [rels_ints' hys]; simp [nums, Value.cells]) (by omega) hE (pH_lt r hN) (fun ys w' ok hys ho => by
    rw [rels_ints' hys, flat_nums] at ho
    simp only [RelB, hn]
    exact ⟨ho, by simp only [lim]; omega⟩)
  refine ⟨_, .slice (some ⟨w.heap.size, 0, none⟩) n n, _, _, fun pos after guard => ?_, .inl rfl, hr.put (Nat.le_of_ble_eq_true hN) (x := .vec d) (by simp only [RelT, upd_same]), fun b hb _ => hao w _ b hb, by simp, fun h hh => upd_other (by simpa using hh), old_cons, fun h hh b hb => .inl (by simp only [List.mem_singleton] at hh; subst hh; rw [upd_same] at hb; simp only [blk, Option.some.injEq] at hb; omega)⟩
  obtain ⟨cs, h1, rfl⟩ := hrun (some d) pos after guard
  exact h1

theorem e_bs_vs {d n : Nat} {t ty e sz : TypeId} {parts : Array (Nat × Operand)} {es : List PV} [ht : TBs P t e sz] (hi : parts.toList.map Prod.fst = List.range n) (hx : evs E (parts.toList.map Prod.snd) = some es) (hsz : es.all (fun z => Nat.beq (cellsP z).length sz && Av.ones (cellsP z)) = true) (hl : Nat.ble (n * sz) 16777216 = true) (hE : frE d E = true) (hN : Nat.blt d N = true) :
    Eff P N (some d) (.buildSlice t n parts) ty E H ((d, .vec d) :: E) ((d, .vs e sz es) :: H) [d] := by
  unfold Eff
  intro okA w0 ρ tmps w r
  have hn : es.length = n := by
    have h1 := congrArg List.length hi
    have h2 := (evs_rel r hx).length
    simp at h1 h2
    omega
  have hle := Nat.le_of_ble_eq_true hl
  have hall : ∀ z ∈ es, (cellsP z).length = sz ∧ Av.ones (cellsP z) = true := fun z hz => by
    have := List.all_eq_true.1 hsz z hz
    simp only [Bool.and_eq_true] at this
    exact ⟨Nat.eq_of_beq_eq_true this.1, this.2⟩
  have hsz' : ∀ (w : World) (ok : Bool → Nat → Prop) (es : List PV) (ys : List Value), (∀ z ∈ es, (cellsP z).length = sz ∧ Av.ones (cellsP z) = true) → Rels w ok es ys → ∀ z ∈ ys, z.cells.size = sz := by
    intro w ok es
    induction es with
    | nil => intro ys _ h z hz; simp only [Rels] at h; subst h; cases hz
    | cons e es ih =>
      intro ys ha h z hz
      simp only [Rels] at h
      obtain ⟨y, zs, rfl, hy, hzs⟩ := h
      rcases List.mem_cons.1 hz with rfl | hz
      · have := (cellsP_rel hy (ha e (by simp)).2).length
        rw [(ha e (by simp)).1] at this
        simpa using this
      · exact ih zs (fun z hz => ha z (by simp [hz])) hzs z hz
  obtain ⟨_, i0, z0, _, _, _, _, hsp⟩ := ht.out
  obtain ⟨hrun, hr⟩ := bs_core (P := P) r (ty := ty) (d := d) (t := t) (m := .vs e sz es) (sz := sz) hi hx (fun ys hys => hsz' _ _ _ _ hall hys) hle hE (pH_lt r hN) (fun ys w' ok hys ho => by
    simp only [RelB, hn]
    have h2 : n * 1 ≤ n * sz := Nat.mul_le_mul_left _ hsp
    exact ⟨ys, hys, hsz' _ _ _ _ hall hys, ho, ones_flat hys (fun e he => (hall e he).2), by simp only [lim]; omega⟩)
  refine ⟨_, .slice (some ⟨w.heap.size, 0, none⟩) n n, _, _, fun pos after guard => ?_, .inl rfl, hr.put (Nat.le_of_ble_eq_true hN) (x := .vec d) (by simp only [RelT, upd_same]), fun b hb _ => hao w _ b hb, by simp, fun h hh => upd_other (by simpa using hh), old_cons, fun h hh b hb => .inl (by simp only [List.mem_singleton] at hh; subst hh; rw [upd_same] at hb; simp only [blk, Option.some.injEq] at hb; omega)⟩
  obtain ⟨cs, h1, rfl⟩ := hrun (some d) pos after guard
  exact h1
end

section
def zE (P : Program) (t : TypeId) : Option (List Value) := match P.info? t with
  | some i => match i.zero with
    | some z => some z.cells.toList
    | none => none
  | none => none
theorem TZero.of' {P : Program} {t : TypeId} {zs : List Value} (h : zE P t = some zs) (h1 : zs.all (·.oneCell') = true) : TZero P t (zs.map PV.v) := by
  unfold zE at h
  split at h
  · rename_i i hi
    split at h
    · rename_i z hz
      simp only [Option.some.injEq] at h
      subst h
      exact ⟨z, by simp [hi, hz], rfl, fun u hu => List.all_eq_true.1 h1 u hu⟩
    · cases h
  · cases h
def elE (P : Program) (t : TypeId) : Option (TypeId × Option (List Value) × Nat × Nat) := match P.underlying t with
  | some (.slice e) => match P.info? e with
    | some i => some (e, i.zero.map (fun z => z.cells.toList), i.size, i.bytes)
    | none => none
  | _ => none
theorem elE_out {P : Program} {t e sz bytes : Nat} {zs : Option (List Value)} (h : elE P t = some (e, zs, sz, bytes)) : P.underlying t = some (.slice e) ∧ ∃ i, P.info? e = some i ∧ i.zero.map (fun z => z.cells.toList) = zs ∧ i.size = sz ∧ i.bytes = bytes := by
  unfold elE at h
  split at h
  · rename_i e' hu
    split at h
    · rename_i i hi
      simp only [Option.some.injEq, Prod.mk.injEq] at h
      obtain ⟨rfl, rfl, rfl, rfl⟩ := h
      exact ⟨hu, i, hi, rfl, rfl, rfl⟩
    · cases h
  · cases h
theorem TAp.of {P : Program} {t e sz bytes : Nat} {zs : List Value} (h : elE P t = some (e, some zs, sz, bytes)) (h1 : zs.length = sz) (h2 : 0 < sz) (h3 : 0 < bytes) : TAp P t e sz bytes := by
  obtain ⟨hu, i, hi, hz, hs, hb⟩ := elE_out h
  obtain ⟨z, hz1, hz2⟩ := Option.map_eq_some_iff.1 hz
  exact ⟨hu, i, z, hi, hz1, hs, hb, by rw [← h1, ← hz2]; simp, h2, h3⟩
theorem TBs.of {P : Program} {t e sz bytes : Nat} {zs : List Value} (h : elE P t = some (e, some zs, sz, bytes)) (h1 : zs.length = sz) (h2 : 0 < sz) : TBs P t e sz := by
  obtain ⟨hu, i, hi, hz, hs, hb⟩ := elE_out h
  obtain ⟨z, hz1, hz2⟩ := Option.map_eq_some_iff.1 hz
  exact ⟨hu, i, z, hi, hz1, hs, by rw [← h1, ← hz2]; simp, h2⟩
def mkE (P : Program) (t : TypeId) : Option (TypeId × Option Value × Nat × Nat) := match P.underlying t with
  | some (.slice e) => match P.info? e with
    | some i => some (e, i.zero, i.size, i.bytes)
    | none => none
  | _ => none
theorem TMk.of {P : Program} {t e bytes : Nat} {k : IntKind} (h : mkE P t = some (e, some (.int k 0), 1, bytes)) (h3 : 0 < bytes) : TMk P t e k bytes := by
  unfold mkE at h
  split at h
  · rename_i e' hu
    split at h
    · rename_i i hi
      simp only [Option.some.injEq, Prod.mk.injEq] at h
      obtain ⟨rfl, h4, h5, rfl⟩ := h
      exact ⟨hu, by simp [hi, h4, h5], h3⟩
    · cases h
  · cases h
def plE (P : Program) (t : TypeId) : Option (List Value × List (Nat × Nat)) := match P.info? t, P.underlying t with
  | some it, some (.struct fields) => match it.zero, fields.toList.mapM (fun f => (P.info? f.type).map fun i => (f.offset, i.size)) with
    | some z, some places => some (z.cells.toList, places)
    | _, _ => none
  | _, _ => none
theorem TPl.of {P : Program} {t : TypeId} {zs : List Value} {pl : List (Nat × Nat)} (h : plE P t = some (zs, pl)) (h1 : zs.all (·.oneCell') = true) : TPl P t (zs.map PV.v) pl := by
  unfold plE at h
  split at h
  · rename_i it fields hi hu
    split at h
    · rename_i z places hz hp
      simp only [Option.some.injEq, Prod.mk.injEq] at h
      obtain ⟨rfl, rfl⟩ := h
      refine ⟨z.cells.toList, rfl, fun u hu => List.all_eq_true.1 h1 u hu, fun parts => ?_⟩
      simp only [Program.built, hi, hu, hz, hp]
      simp
    · cases h
  · cases h
end

/-! ### No wrap where the kind holds the number -/
def loK : IntKind → Int
  | .i8 => -128
  | .i16 => -32768
  | .i32 => -2147483648
  | .i64 => -9223372036854775808
  | _ => 0
def hiK : IntKind → Int
  | .i8 => 127
  | .i16 => 32767
  | .i32 => 2147483647
  | .i64 => 9223372036854775807
  | .u8 => 255
  | .u16 => 65535
  | .u32 => 4294967295
  | .u64 => 18446744073709551615
def InK (k : IntKind) (n : Int) : Prop := loK k ≤ n ∧ n ≤ hiK k
theorem wrap_in {k : IntKind} {n : Int} (h : InK k n) : k.wrap n = n := by
  obtain ⟨h1, h2⟩ := h
  cases k <;> simp only [loK, hiK] at h1 h2 <;> simp [IntKind.wrap, IntKind.bits, IntKind.signed] <;> omega
def binA : BinOp → Int → Int → Option Int
  | .add, a, b => some (a + b)
  | .sub, a, b => some (a - b)
  | .mul, a, b => some (a * b)
  | _, _, _ => none

section
variable {P : Program} {N : Nat} {E : Env} {H : Hp} {Q : Exit → Env → Hp → Prop} {ops : Array Oper} {rest : List Oper}
theorem y_binn {op : BinOp} {x y : Operand} {t t' ty : TypeId} {k : IntKind} {a b c : Int} (hx : evT E x = some (.p (.v (.int k a)))) (hy : evT E y = some (.p (.v (.int k b)))) (hv : binA op a b = some c) (h : InK k c) :
    Yl P (.binOp op t x y t') ty E H (.p (.v (.int k c))) .no := by
  refine y_bin hx hy ?_
  cases op <;> simp only [binA, Option.some.injEq, reduceCtorEq] at hv <;> subst hv <;> simp only [binR, wrap_in h]
theorem y_convn {x : Operand} {s t ty : TypeId} {k k' : IntKind} {n : Int} (hx : evT E x = some (.p (.v (.int k n)))) [hs : TInt P s k] [ht : TInt P t k'] (h : InK k' n) : Yl P (.convert s t x) ty E H (.p (.v (.int k' n))) .no := by
  have := y_conv (P := P) (ty := ty) (H := H) (s := s) (t := t) hx
  rwa [wrap_in h] at this
theorem y_negn {x : Operand} {t ty : TypeId} {k : IntKind} {n : Int} (hx : evT E x = some (.p (.v (.int k n)))) (h : InK k (-n)) : Yl P (.unOp .neg t x) ty E H (.p (.v (.int k (-n)))) .no := by
  have := y_neg (P := P) (ty := ty) (H := H) (t := t) hx
  rwa [wrap_in h] at this
end

/-! ### Tests that are decided -/
def binC : BinOp → Int → Int → Option Prop
  | .eql, a, b => some (a = b)
  | .neq, a, b => some (a ≠ b)
  | .lss, a, b => some (a < b)
  | .leq, a, b => some (a ≤ b)
  | .gtr, a, b => some (b < a)
  | .geq, a, b => some (b ≤ a)
  | _, _, _ => none

section
variable {P : Program} {N : Nat} {E : Env} {H : Hp} {Q : Exit → Env → Hp → Prop} {ops : Array Oper} {rest : List Oper}
theorem y_cmpT {op : BinOp} {x y : Operand} {t t' ty : TypeId} {k : IntKind} {a b : Int} {p : Prop} (hx : evT E x = some (.p (.v (.int k a)))) (hy : evT E y = some (.p (.v (.int k b)))) (hv : binC op a b = some p) (h : p) :
    Yl P (.binOp op t x y t') ty E H (.p (.v (.bool true))) .no := by
  refine y_bin hx hy ?_
  cases op <;> simp only [binC, Option.some.injEq, reduceCtorEq] at hv <;> subst hv <;> simp only [binR, Option.some.injEq, Value.bool.injEq] <;> exact decide_eq_true h
theorem y_cmpF {op : BinOp} {x y : Operand} {t t' ty : TypeId} {k : IntKind} {a b : Int} {p : Prop} (hx : evT E x = some (.p (.v (.int k a)))) (hy : evT E y = some (.p (.v (.int k b)))) (hv : binC op a b = some p) (h : ¬ p) :
    Yl P (.binOp op t x y t') ty E H (.p (.v (.bool false))) .no := by
  refine y_bin hx hy ?_
  cases op <;> simp only [binC, Option.some.injEq, reduceCtorEq] at hv <;> subst hv <;> simp only [binR, Option.some.injEq, Value.bool.injEq] <;> exact decide_eq_false h
theorem cond_t {c : Operand} {x y : Code} (hc : evT E c = some (.p (.v (.bool true)))) (h1 : Tr P N x E H Q) : Tr P N (.cond c x y) E H Q := cond_ hc (fun _ => h1) (fun h => by cases h)
theorem cond_f {c : Operand} {x y : Code} (hc : evT E c = some (.p (.v (.bool false)))) (h1 : Tr P N y E H Q) : Tr P N (.cond c x y) E H Q := cond_ hc (fun h => by cases h) (fun _ => h1)
end

theorem fin_r {P : Program} {E : Env} {H : Hp} {rs : List ResultVar} {r : PV} {xs : List PV} (h : ResL P E H rs xs) (hl : Le (tup xs) r) : Fin P rs r .ret E H := ⟨.inr rfl, xs, h, hl⟩
theorem fin_n {P : Program} {E : Env} {H : Hp} {rs : List ResultVar} {r : PV} {xs : List PV} (h : ResL P E H rs xs) (hl : Le (tup xs) r) : Fin P rs r .normal E H := ⟨.inl rfl, xs, h, hl⟩
/-- The loop's head is told again. -/
theorem sub_nil {E : Env} : ∀ i x, lk i [] = some x → lk i E = some x := fun i x h => by simp [lk] at h
theorem sub_cons {E E' : Env} {j : Nat} {y : TV} (h1 : lk j E = some y) (h2 : ∀ i x, lk i E' = some x → lk i E = some x) : ∀ i x, lk i ((j, y) :: E') = some x → lk i E = some x := by
  intro i x h
  simp only [lk] at h
  cases hij : Nat.beq i j with
  | true => rw [hij] at h; simp only [cond_true, Option.some.injEq] at h; subst h; rw [Nat.eq_of_beq_eq_true hij]; exact h1
  | false => rw [hij] at h; simp only [cond_false] at h; exact h2 i x h
theorem sub_conse {E E' : Env} {j : Nat} {y y' : TV} (h1 : lk j E = some y') (hy : y' = y) (h2 : ∀ i x, lk i E' = some x → lk i E = some x) : ∀ i x, lk i ((j, y) :: E') = some x → lk i E = some x := sub_cons (hy ▸ h1) h2
theorem subH_nil {H : Hp} : ∀ i x, hk i [] = some x → hk i H = some x := fun i x h => by simp [hk] at h
theorem subH_cons {H H' : Hp} {j : Nat} {y : MB} (h1 : hk j H = some y) (h2 : ∀ i x, hk i H' = some x → hk i H = some x) : ∀ i x, hk i ((j, y) :: H') = some x → hk i H = some x := by
  intro i x h
  simp only [hk] at h
  cases hij : Nat.beq i j with
  | true => rw [hij] at h; simp only [cond_true, Option.some.injEq] at h; subst h; rw [Nat.eq_of_beq_eq_true hij]; exact h1
  | false => rw [hij] at h; simp only [cond_false] at h; exact h2 i x h
theorem subH_conse {H H' : Hp} {j : Nat} {y y' : MB} (h1 : hk j H = some y') (hy : y' = y) (h2 : ∀ i x, hk i H' = some x → hk i H = some x) : ∀ i x, hk i ((j, y) :: H') = some x → hk i H = some x := subH_cons (hy ▸ h1) h2
theorem wrap_u32 (n : Int) : IntKind.wrap .u32 n = n % 4294967296 := rfl
theorem wrap_u64 (n : Int) : IntKind.wrap .u64 n = n % 18446744073709551616 := rfl

section
variable {P : Program} {N : Nat} {E : Env} {H : Hp} {Q : Exit → Env → Hp → Prop} {ops : Array Oper} {rest : List Oper}
theorem guard_t {dst : Option Tmp} {op : Op} {ty : TypeId} {pos : String} {af : Array Edge} {j d : Nat} {want b : Bool} (hj : (ops[j]?).bind (·.dst) = some d) (hd : lk d E = some (.p (.v (.bool b)))) (hw : (b == want) = true) (k : TrL P N ops (⟨dst, op, ty, pos, af, none⟩ :: rest) E H Q) : TrL P N ops (⟨dst, op, ty, pos, af, some (j, want)⟩ :: rest) E H Q :=
  guard_run rfl hj hd hw k
theorem guard_f {t : Nat} {op : Op} {ty : TypeId} {pos : String} {af : Array Edge} {j d : Nat} {want b : Bool} (hj : (ops[j]?).bind (·.dst) = some d) (hd : lk d E = some (.p (.v (.bool b)))) (hw : (b == want) = false) (hN : Nat.blt t N = true) (k : TrL P N ops rest ((t, .p (.v undef)) :: E) H Q) : TrL P N ops (⟨some t, op, ty, pos, af, some (j, want)⟩ :: rest) E H Q :=
  guard_skip rfl rfl hN hj hd hw k
theorem guard_u {t : Nat} {op : Op} {ty : TypeId} {pos : String} {af : Array Edge} {j d : Nat} {want : Bool} (hj : (ops[j]?).bind (·.dst) = some d) (hd : lk d E = some (.p (.v undef))) (hN : Nat.blt t N = true) (k : TrL P N ops rest ((t, .p (.v undef)) :: E) H Q) : TrL P N ops (⟨some t, op, ty, pos, af, some (j, want)⟩ :: rest) E H Q :=
  guard_skip_u rfl rfl hN hj hd k
end

/-! How long a slice may be. -/
section
variable {P : Program} {N : Nat} {E : Env} {H : Hp} {Q : Exit → Env → Hp → Prop} {ops : Array Oper} {rest : List Oper} {c : Code}
theorem len_C {i : Nat} {f : Bool} {k : IntKind} {l : List Int} (hE : lk i E = some (.p (.si f k l))) (kk : l.length < 281474976710656 → Tr P N c E H Q) : Tr P N c E H Q := by
  unfold Tr at kk ⊢
  intro okA w0 ρ tmps w r
  obtain ⟨y, _, hr⟩ := r.env _ _ hE
  simp only [RelT, Rel] at hr
  obtain ⟨_, _, _, _, _, hl, _⟩ := hr
  exact kk hl okA w0 ρ tmps w r
theorem len_Cs {i : Nat} {f : Bool} {sz : Nat} {es : List PV} (hE : lk i E = some (.p (.ss f sz es))) (kk : es.length < 281474976710656 → Tr P N c E H Q) : Tr P N c E H Q := by
  unfold Tr at kk ⊢
  intro okA w0 ρ tmps w r
  obtain ⟨y, _, hr⟩ := r.env _ _ hE
  simp only [RelT, Rel] at hr
  obtain ⟨_, _, _, _, _, _, hl, _⟩ := hr
  exact kk hl okA w0 ρ tmps w r
theorem len_Ca {i : Nat} {b : PV} {f : Bool} {k : IntKind} {l : List Int} {r' : List PV} (hE : lk i E = some (.p (.ag (b :: .si f k l :: r')))) (kk : l.length < 281474976710656 → Tr P N c E H Q) : Tr P N c E H Q := by
  unfold Tr at kk ⊢
  intro okA w0 ρ tmps w r
  obtain ⟨y, _, hr⟩ := r.env _ _ hE
  simp only [RelT, Rel, Rels] at hr
  obtain ⟨_, _, _, _, _, _, _, _, _, ⟨_, _, _, _, _, hl, _⟩, _⟩ := hr
  exact kk hl okA w0 ρ tmps w r
end

section
variable {P : Program} {E : Env} {H : Hp}
theorem y_shr32 {x y : Operand} {t t' ty : TypeId} {k k' : IntKind} {a : Int} (hx : evT E x = some (.p (.v (.int k a)))) (hy : evT E y = some (.p (.v (.int k' 32)))) (h1 : (32 : Int) ≤ k.bits) : Yl P (.binOp .shr t x y t') ty E H (.p (.v (.int k (a / 4294967296)))) .no :=
  y_shr hx hy (by decide) h1
theorem y_shr31 {x y : Operand} {t t' ty : TypeId} {k k' : IntKind} {a : Int} (hx : evT E x = some (.p (.v (.int k a)))) (hy : evT E y = some (.p (.v (.int k' 31)))) (h1 : (31 : Int) ≤ k.bits) : Yl P (.binOp .shr t x y t') ty E H (.p (.v (.int k (a / 2147483648)))) .no :=
  y_shr hx hy (by decide) h1
theorem y_shl32 {x y : Operand} {t t' ty : TypeId} {k k' : IntKind} {a : Int} (hx : evT E x = some (.p (.v (.int k a)))) (hy : evT E y = some (.p (.v (.int k' 32)))) (h1 : (32 : Int) ≤ k.bits) (h : InK k (a * 4294967296)) : Yl P (.binOp .shl t x y t') ty E H (.p (.v (.int k (a * 4294967296)))) .no := by
  have := y_shl (P := P) (ty := ty) (H := H) (t := t) (t' := t') hx hy (by decide) h1
  rw [show (2 : Int) ^ (32 : Int).toNat = 4294967296 from rfl, wrap_in h] at this
  exact this
/-- quotients and rests of numbers that are not negative -/
theorem y_quop {x y : Operand} {t t' ty : TypeId} {k : IntKind} {a b : Int} (hx : evT E x = some (.p (.v (.int k a)))) (hy : evT E y = some (.p (.v (.int k b)))) (h0 : 0 < b) (ha : 0 ≤ a) (h : InK k a) : Yl P (.binOp .quo t x y t') ty E H (.p (.v (.int k (a / b)))) .no := by
  have := y_quo (P := P) (ty := ty) (H := H) (t := t) (t' := t') hx hy (by omega)
  rw [Int.tdiv_eq_ediv_of_nonneg ha] at this
  rwa [wrap_in] at this
  have h1 : a / b ≤ a := Int.ediv_le_self _ ha
  have h2 : 0 ≤ a / b := Int.ediv_nonneg ha (by omega)
  obtain ⟨h3, h4⟩ := h
  constructor
  · have : loK k ≤ 0 := by cases k <;> decide
    omega
  · omega
theorem y_remp {x y : Operand} {t t' ty : TypeId} {k : IntKind} {a b : Int} (hx : evT E x = some (.p (.v (.int k a)))) (hy : evT E y = some (.p (.v (.int k b)))) (h0 : 0 < b) (ha : 0 ≤ a) : Yl P (.binOp .rem t x y t') ty E H (.p (.v (.int k (a % b)))) .no := by
  have := y_rem (P := P) (ty := ty) (H := H) (t := t) (t' := t') hx hy (by omega)
  rwa [Int.tmod_eq_emod_of_nonneg ha] at this
end

section
variable {P : Program} {E : Env} {H : Hp}
theorem y_index_vi {x i : Operand} {t ty e e' : TypeId} {sz h : Nat} {ik k : IntKind} {n : Int} {l : List Int} [ht : TSl P t e sz] (hx : evT E x = some (.vec h)) (hm : hk h H = some (.vi e' k l)) (hi : evT E i = some (.p (.v (.int ik n)))) (h0 : 0 ≤ n) (h1 : n < l.length) :
    Yl P (.indexAddr t x i) ty E H (.vp h (n.toNat * sz)) .no := y_index_vec (m := .vi e' k l) hx hm rfl hi h0 h1
theorem y_index_vs {x i : Operand} {t ty e e' : TypeId} {sz sz' h : Nat} {ik : IntKind} {n : Int} {l : List PV} [ht : TSl P t e sz] (hx : evT E x = some (.vec h)) (hm : hk h H = some (.vs e' sz' l)) (hi : evT E i = some (.p (.v (.int ik n)))) (h0 : 0 ≤ n) (h1 : n < l.length) :
    Yl P (.indexAddr t x i) ty E H (.vp h (n.toNat * sz)) .no := y_index_vec (m := .vs e' sz' l) hx hm rfl hi h0 h1
end
section
variable {P : Program} {E : Env} {H : Hp}
theorem y_shr16 {x y : Operand} {t t' ty : TypeId} {k k' : IntKind} {a : Int} (hx : evT E x = some (.p (.v (.int k a)))) (hy : evT E y = some (.p (.v (.int k' 16)))) (h1 : (16 : Int) ≤ k.bits) : Yl P (.binOp .shr t x y t') ty E H (.p (.v (.int k (a / 65536)))) .no :=
  y_shr hx hy (by decide) h1
theorem y_shr8 {x y : Operand} {t t' ty : TypeId} {k k' : IntKind} {a : Int} (hx : evT E x = some (.p (.v (.int k a)))) (hy : evT E y = some (.p (.v (.int k' 8)))) (h1 : (8 : Int) ≤ k.bits) : Yl P (.binOp .shr t x y t') ty E H (.p (.v (.int k (a / 256)))) .no :=
  y_shr hx hy (by decide) h1
theorem y_shrn {x y : Operand} {t t' ty : TypeId} {k k' : IntKind} {a : Int} {n : Nat} (hx : evT E x = some (.p (.v (.int k a)))) (hy : evT E y = some (.p (.v (.int k' (n : Int))))) (h1 : (n : Int) ≤ k.bits) : Yl P (.binOp .shr t x y t') ty E H (.p (.v (.int k (a / 2 ^ n)))) .no := by
  have := y_shr (P := P) (ty := ty) (H := H) (t := t) (t' := t') hx hy (by omega) h1
  rwa [Int.toNat_natCast] at this
theorem y_shln {x y : Operand} {t t' ty : TypeId} {k k' : IntKind} {a n : Nat} (hx : evT E x = some (.p (.v (.int k (a : Int))))) (hy : evT E y = some (.p (.v (.int k' (n : Int))))) (h1 : (n : Int) ≤ k.bits) (h : InK k ((a * 2 ^ n : Nat) : Int)) : Yl P (.binOp .shl t x y t') ty E H (.p (.v (.int k ((a * 2 ^ n : Nat) : Int)))) .no := by
  have := y_shl (P := P) (ty := ty) (H := H) (t := t) (t' := t') hx hy (by omega) h1
  rw [Int.toNat_natCast] at this
  have e : (a : Int) * 2 ^ n = ((a * 2 ^ n : Nat) : Int) := by simp
  rw [e, wrap_in h] at this
  exact this
end
theorem wrap32 {n : Nat} (h : n < 4294967296) : IntKind.wrap .u32 (n : Int) = n := by rw [wrap_u32]; omega

/-! ### Rows that are lent, rows that are given back -/
section
variable {P : Program} {N : Nat} {E : Env} {H : Hp} {Q : Exit → Env → Hp → Prop} {ops : Array Oper} {rest : List Oper}

theorem Rep.row_at {okA : Acc} {w0 : World} {ρ : Nat → Value} {tmps : Array Value} {w : World} (r : Rep okA w0 N ρ E H tmps w) {h : Nat} {e : TypeId} {k : IntKind} {l : List Int} (hm : hk h H = some (.vi e k l)) (hp : 0 < l.length) : ∃ g c, ρ h = .slice (some ⟨g, 0, none⟩) l.length c ∧ l.length ≤ c := by
  have hb := r.heap h _ hm
  simp only [RelB] at hb
  rcases hb.1.2 with ⟨_, h3⟩ | ⟨g, cap, cur, h3, _, _, h4, _⟩
  · omega
  · exact ⟨g, cap, h3, h4⟩

theorem y_slice_vi {x a b : Operand} {t ty e e' : TypeId} {h : Nat} {k ik jk : IntKind} {l : List Int} {lo hi : Int} [ht : TSl P t e 1] (hx : evT E x = some (.vec h)) (hm : hk h H = some (.vi e' k l)) (ha : evT E a = some (.p (.v (.int ik lo)))) (hb : evT E b = some (.p (.v (.int jk hi)))) (h0 : 0 ≤ lo) (h1 : lo < hi) (h2 : hi ≤ l.length) :
    Yl P (.slice t x (some a) (some b) none) ty E H (.vw h lo.toNat (hi - lo).toNat) .no := by
  unfold Yl
  intro okA w0 N ρ tmps w r
  obtain ⟨h3, h4⟩ := ht.elem
  have e0 := ev_rel r hx
  simp only [RelT] at e0
  obtain ⟨g, c, hg, hlc⟩ := r.row_at hm (by omega)
  refine ⟨.slice (some ⟨g, lo.toNat, none⟩) (hi - lo).toNat (c - lo.toNat), fun W _ _ _ _ _ => ?_, by simp only [RelT]; exact ⟨g, _, c, hg, by omega, rfl⟩⟩
  simp only [execOp, e0, hg, Option.map_some, Option.map_none, ev_v r ha, ev_v r hb, Sem.run_bind, run_sliceAt_slice _ _ _ _ _ _ h3, run_slice_lh W t _ l.length c h3 ik jk lo hi h0 (by omega) (by omega), h4, Result.andThen_ok, Sem.run_pure]
  have e2 : hi.toNat - lo.toNat = (hi - lo).toNat := by omega
  simp [sliced, Addr.add_lit, e2]
  try omega

theorem y_len_vw {x : Operand} {t ty e : TypeId} {sz h off n : Nat} [ht : TSl P t e sz] (hx : evT E x = some (.vw h off n)) : Yl P (.call { callee := .builtin .len, args := #[x], argTypes := #[t] }) ty E H (.p (.v (.int .i64 n))) .no := by
  unfold Yl
  intro okA w0 N ρ tmps w r
  have h0 := ev_rel r hx
  simp only [RelT] at h0
  obtain ⟨g, m, c, _, _, e1⟩ := h0
  exact ⟨_, fun W _ _ _ _ _ => by simp [execOp, resolve, invoke, builtin, e1, Builtin.len_, run_underlying ht.out.1]; rfl, by simp [RelT, Rel, goInt]⟩

theorem y_index_vw {x i : Operand} {t ty e : TypeId} {h off len : Nat} {ik : IntKind} {n : Int} [ht : TSl P t e 1] (hx : evT E x = some (.vw h off len)) (hi : evT E i = some (.p (.v (.int ik n)))) (h0 : 0 ≤ n) (h1 : n < len) :
    Yl P (.indexAddr t x i) ty E H (.vp h (((off : Int) + n).toNat * 1)) .no := by
  unfold Yl
  intro okA w0 N ρ tmps w r
  obtain ⟨ht1, ht2⟩ := ht.out
  obtain ⟨ie, hie, hn⟩ := Option.map_eq_some_iff.1 ht2
  have e0 := ev_rel r hx
  simp only [RelT] at e0
  obtain ⟨g, m, c, hg, hm, e1⟩ := e0
  refine ⟨.pointer (some ⟨g, ((off : Int) + n).toNat * 1, none⟩), fun W _ _ _ _ _ => ?_, by simp only [RelT]; exact ⟨g, _, c, hg, rfl⟩⟩
  have e2 : ((off : Int) + n).toNat * 1 = off + n.toNat := by omega
  rw [e2]
  simp [execOp, e1, ev_v r hi, Instr.indexAt, run_underlying ht1, asIntOf, h0, h1, sizeOf, typeInfo, hie, hn, Addr.add_lit]

/-- A lent row as the callee sees it, and as the caller has it. -/
def toH (h : Nat) : TV → TV
  | .vec _ => .vec h
  | .vw _ off n => .vw h off n
  | x => x
def isRow : TV → Bool
  | .vec h => Nat.beq h 1000000
  | .vw h _ _ => Nat.beq h 1000000
  | _ => false

/-- Function f, called with a row of whole numbers that it may write, and with further values: the row holds L at first and L' at the end; nothing else that stood has changed. -/
def ConW (P : Program) (f : FuncId) (a0 : TV) (args : List PV) (e : TypeId) (k : IntKind) (L L' : List Int) (r : PV) : Prop :=
  isRow a0 = true ∧ ∀ (rd : Nat → Prop) (w : World) (v0 : Value) (vs : List Value) (row : Value), RelB w (fun _ _ => False) 0 (.vi e k L) row → RelT w (fun _ _ => False) (fun _ => row) a0 v0 → Rels w (fun _ b => b < w.heap.size ∧ rd b ∧ blk row ≠ some b) args vs →
    Calls P f (v0 :: vs).toArray w fun en w' => ∃ y, en = .returned y ∧ Rel w' (fun t b => b < w'.heap.size ∧ blk row ≠ some b ∧ (w.heap.size ≤ b ∨ (t = false ∧ rd b))) r y ∧ Frm ⟨rd, fun b => blk row = some b, row⟩ w.heap.size w w' ∧ RelB w' (fun _ _ => False) 0 (.vi e k L') row

def FinW (P : Program) (rs : List ResultVar) (r : PV) (e : TypeId) (k : IntKind) (L' : List Int) : Exit → Env → Hp → Prop := fun en E H =>
  Fin P rs r en E H ∧ hk 1000000 H = some (.vi e k L')

theorem relT_row {w w' : World} {ok ok' : Bool → Nat → Prop} {ρ ρ' : Nat → Value} {a0 : TV} {y : Value} {h : Nat} (h1 : isRow a0 = true) (h2 : ρ' h = ρ 1000000) (hr : RelT w ok ρ a0 y) : RelT w' ok' ρ' (toH h a0) y := by
  cases a0 with
  | vec j => simp only [isRow] at h1; have := Nat.eq_of_beq_eq_true h1; subst this; simp only [RelT, toH] at hr ⊢; rw [h2]; exact hr
  | vw j off n => simp only [isRow] at h1; have := Nat.eq_of_beq_eq_true h1; subst this; simp only [RelT, toH] at hr ⊢; rw [h2]; exact hr
  | _ => simp [isRow] at h1
theorem relT_row' {w w' : World} {ok ok' : Bool → Nat → Prop} {ρ ρ' : Nat → Value} {a0 : TV} {y : Value} {h : Nat} (h1 : isRow a0 = true) (h2 : ρ' 1000000 = ρ h) (hr : RelT w ok ρ (toH h a0) y) : RelT w' ok' ρ' a0 y := by
  cases a0 with
  | vec j => simp only [isRow] at h1; have := Nat.eq_of_beq_eq_true h1; subst this; simp only [RelT, toH] at hr ⊢; rw [h2]; exact hr
  | vw j off n => simp only [isRow] at h1; have := Nat.eq_of_beq_eq_true h1; subst this; simp only [RelT, toH] at hr ⊢; rw [h2]; exact hr
  | _ => simp [isRow] at h1
theorem relB_row {w w' : World} {ok ok' : Bool → Nat → Prop} {e : TypeId} {k : IntKind} {L : List Int} {y : Value} (h : RelB w ok 0 (.vi e k L) y) (h2 : ∀ b, blk y = some b → w'.heap[b]? = w.heap[b]?) : RelB w' ok' 0 (.vi e k L) y := by
  simp only [RelB] at h ⊢
  exact ⟨own_of_block h.1 h2, h.2⟩

theorem args_entry {okA : Nat → Prop} {w : World} {args : List PV} {vs : List Value} {i : Nat} {x : TV} (ht : noTs args = true) (hvs : Rels w (fun _ b => b < w.heap.size ∧ okA b) args vs) (hx : lk i (argsE 1 args) = some x) : 1 ≤ i ∧ ∃ y, vs[i - 1]? = some y ∧ ∃ z, x = .p z ∧ noT z = true ∧ Rel w (fun _ b => b < w.heap.size ∧ okA b) z y := by
  obtain ⟨h1, z, hz, rfl⟩ := argsE_lk hx
  obtain ⟨y, hy, hr⟩ := hvs.get hz
  refine ⟨h1, y, hy, z, rfl, ?_, hr⟩
  have : ∀ {xs : List PV}, noTs xs = true → ∀ {i : Nat} {z : PV}, xs[i]? = some z → noT z = true := by
    intro xs
    induction xs with
    | nil => intro _ i z h; simp at h
    | cons x xs ih =>
      intro h i z hz
      simp only [noTs, Bool.and_eq_true] at h
      cases i with
      | zero => simp at hz; subst hz; exact h.1
      | succ i => exact ih h.2 (by simpa using hz)
  exact this ht hz

theorem fin_run {okA : Acc} {w0 : World} {ρ : Nat → Value} {w' : World} {fn : Func} {rs : List ResultVar} {r : PV} {en : Exit} {a : Act} (hrs : fn.results = rs.toArray) (hr : Rep okA w0 N ρ E H a.tmps w') (q : Fin P rs r en E H) : ∃ v, (results fn a.tmps).run P w' = .ok v w' ∧ Rel w' (fun f b => b < w'.heap.size ∧ (w0.heap.size ≤ b ∨ (f = false ∧ okA.rd b))) r v := by
  obtain ⟨he, xs, hres, hle⟩ := q
  obtain ⟨ys, hrun, hrel⟩ := ResL.run (P := P) hr hres
  have hrun' : (fn.results.mapM (resF a.tmps)).run P w' = .ok ys.toArray w' := by
    rw [hrs, Array.mapM_eq_mapM_toList]
    simp only [Sem.run_map, hrun, Result.andThen_ok]
  have hl := hrel.length
  refine ⟨if h : ys.toArray.size = 1 then ys.toArray[0] else .tuple ys.toArray, ?_, ?_⟩
  · have hre : results fn a.tmps = (do let vs ← fn.results.mapM (resF a.tmps); pure (if h : vs.size = 1 then vs[0] else .tuple vs)) := by
      unfold results
      congr 2
    rw [hre]
    simp only [Sem.run_bind, hrun', Result.andThen_ok, Sem.run_pure]
  · refine Le.rel (fun b hb => ⟨hb.1, hb.2.elim .inl (fun h => absurd h.1 (by simp))⟩) hle _ ?_
    match xs, ys, hrel, hl with
    | [], ys, hrel, hl => simp only [Rels] at hrel; subst hrel; simp only [tup, Rel, Rels]; exact ⟨[], by simp, rfl⟩
    | [x], ys, hrel, hl =>
      simp only [Rels] at hrel
      obtain ⟨y, zs, rfl, hx, rfl⟩ := hrel
      simpa [tup] using hx
    | x :: x' :: xs, ys, hrel, hl =>
      simp only [tup, Rel]
      refine ⟨ys, ?_, hrel⟩
      rw [dif_neg (by simp [hl])]

def stabP : PV → Bool
  | .v _ => true
  | .tp [] => true
  | _ => false
theorem stab_rel {w w' : World} {ok ok' : Bool → Nat → Prop} {r : PV} {y : Value} (hs : stabP r = true) (h : Rel w ok r y) : Rel w' ok' r y := by
  cases r with
  | v x => simpa only [Rel] using h
  | tp fs =>
    cases fs with
    | nil => simpa only [Rel, Rels] using h
    | cons x xs => simp [stabP] at hs
  | _ => simp [stabP] at hs

theorem conW_of {f : FuncId} {fn : Func} {c : Code} {a0 : TV} {args : List PV} {e : TypeId} {k : IntKind} {L L' : List Int} {r : PV} {rs : List ResultVar} (hf : P.funcs[f]? = some fn) (hb : fn.body = some c) (hN : fn.ntmps = N) (hrs : fn.results = rs.toArray) (hst : stabP r = true) (hrow : isRow a0 = true) (ht : noTs args = true) (ha : (Nat.blt args.length N && Nat.ble N 1000000) = true)
    (h : Tr P N c ((0, a0) :: argsE 1 args) [(1000000, .vi e k L)] (FinW P rs r e k L')) : ConW P f a0 args e k L L' r := by
  unfold Tr at h
  refine ⟨hrow, fun rd w v0 vs row hB h0 hvs => calls_of_wp hf hb ?_⟩
  have hlen : vs.length = args.length := hvs.length
  rw [Bool.and_eq_true] at ha
  have hle : args.length < N := Nat.le_of_ble_eq_true ha.1
  have hsm : N ≤ 1000000 := Nat.le_of_ble_eq_true ha.2
  have hbd : ∀ b, blk row = some b → b < w.heap.size := fun b hb' => (hB.bounds (b := b) hb').2
  have hok : ∀ b, b < w.heap.size ∧ (rd b ∧ blk row ≠ some b) → okF ⟨rd, fun b => blk row = some b, row⟩ w.heap.size (fun _ => row) [(1000000, .vi e k L)] w.heap.size false b := fun b hb' =>
    ⟨hb'.1, fun h' m' hm' => by rcases hk_cons hm' with ⟨rfl, _⟩ | ⟨_, h2⟩; exact hb'.2.2; simp [hk] at h2, .inr ⟨rfl, hb'.2.1⟩⟩
  have r0 : Rep ⟨rd, fun b => blk row = some b, row⟩ w N (fun _ => row) ((0, a0) :: argsE 1 args) [(1000000, .vi e k L)] ((v0 :: vs).toArray ++ Array.replicate (fn.ntmps - (v0 :: vs).toArray.size) undef) w := by
    refine ⟨Frm.refl _ _ _, fun h m b hm hb' => ?_, fun h m hm => ?_, fun h h' m m' b hm hm' hne => ?_, fun i x hx => ?_, by simp; omega, rfl, hsm⟩
    · rcases hk_cons hm with ⟨rfl, _⟩ | ⟨_, h2⟩
      · exact .inr ⟨rfl, hb'⟩
      · simp [hk] at h2
    · rcases hk_cons hm with ⟨rfl, rfl⟩ | ⟨_, h2⟩
      · exact relB_row hB (fun _ _ => rfl)
      · simp [hk] at h2
    · rcases hk_cons hm with ⟨rfl, rfl⟩ | ⟨_, h2⟩
      · rcases hk_cons hm' with ⟨rfl, rfl⟩ | ⟨_, h2⟩
        · exact absurd rfl hne
        · simp [hk] at h2
      · simp [hk] at h2
    · have hget : ∀ j, j < (v0 :: vs).length → ((v0 :: vs).toArray ++ Array.replicate (fn.ntmps - (v0 :: vs).toArray.size) undef)[j]? = (v0 :: vs)[j]? := fun j hj => by
        rw [Array.getElem?_append_left (by simpa using hj)]; simp
      simp only [lk] at hx
      cases hi : Nat.beq i 0 with
      | true =>
        rw [hi] at hx
        simp only [cond_true, Option.some.injEq] at hx
        subst hx
        have := Nat.eq_of_beq_eq_true hi
        subst this
        refine ⟨v0, by rw [hget 0 (by simp)]; simp, ?_⟩
        have := relT_row (w' := w) (ok' := okF ⟨rd, fun b => blk row = some b, row⟩ w.heap.size (fun _ => row) [(1000000, .vi e k L)] w.heap.size) (ρ' := fun _ => row) (h := 1000000) hrow rfl h0
        have e2 : toH 1000000 a0 = a0 := by
          cases a0 <;> simp [isRow] at hrow <;> simp [toH, hrow]
        rwa [e2] at this
      | false =>
        rw [hi] at hx
        simp only [cond_false] at hx
        obtain ⟨h1, y, hy, z, rfl, hzt, hr⟩ := args_entry ht hvs hx
        obtain ⟨j, rfl⟩ : ∃ j, i = j + 1 := ⟨i - 1, by omega⟩
        simp only [Nat.add_sub_cancel] at hy
        have hj : j < vs.length := by
          rcases Nat.lt_or_ge j vs.length with h | h
          · exact h
          · rw [List.getElem?_eq_none h] at hy; cases hy
        refine ⟨y, by rw [hget (j + 1) (by simpa using hj)]; simpa using hy, ?_⟩
        simp only [RelT]
        exact Rel.untag hok z y hzt hr
  refine wp_mono (h _ w _ _ w r0) fun en a w' ⟨h1, h2, h3, ρ, E', H', hr, q, hq⟩ => ?_
  obtain ⟨v, hv, hvr⟩ := fin_run hrs hr q
  have hrow' : ρ 1000000 = row := hr.lent
  have hB' := hr.heap _ _ hq
  rw [hrow'] at hB'
  have hfin : Rel w' (fun t b => b < w'.heap.size ∧ blk row ≠ some b ∧ (w.heap.size ≤ b ∨ (t = false ∧ rd b))) r v := stab_rel hst hvr
  rcases q.1 with rfl | rfl
  · exact ⟨h3, v, hv, v, rfl, hfin, hr.below, relB_row hB' (fun _ _ => rfl)⟩
  · exact ⟨h3, v, hv, v, rfl, hfin, hr.below, relB_row hB' (fun _ _ => rfl)⟩

theorem callW_ {d : Nat} {f : FuncId} {fn : Func} {o : Operand} {os : List Operand} {ts : Array TypeId} {ty : TypeId} {pos : String} {af : Array Edge} {h : Nat} {a0 : TV} {args xs : List PV} {e : TypeId} {k : IntKind} {L L' : List Int} {res : PV} (hf : P.funcs[f]? = some fn) (hn : (fn.name == "runtime.NumGoroutine") = false) (hb : fn.body.isNone = false)
    (hc : ConW P f a0 args e k L L' res) (ho : evT E o = some (toH h a0)) (hm : hk h H = some (.vi e k L)) (hx : evs E os = some xs) (hle : Les xs args) (hd : Nat.blt d N = true) (kk : TrL P N ops rest ((d, .p res) :: E) ((h, .vi e k L') :: H) Q) :
    TrL P N ops (⟨some d, .call { callee := .value (.func f), args := (o :: os).toArray, argTypes := ts }, ty, pos, af, none⟩ :: rest) E H Q := by
  unfold TrL at kk ⊢
  intro okA w0 ρ tmps w r
  refine wpList_plain rfl fun K hK => ?_
  obtain ⟨hrow, hc⟩ := hc
  have hB := r.heap h _ hm
  have h1 := Les.rel (fun b hb => okF.tag hb) hle _ (evs_rel r hx)
  have h2 := Rels.mono (ok' := fun _ b => b < w.heap.size ∧ okF okA w0.heap.size ρ H w.heap.size false b ∧ blk (ρ h) ≠ some b) (fun f b hb => ⟨hb.1, by cases f; exact hb; exact hb.tag, hb.2.1 h _ hm⟩) (fun _ _ _ => rfl) _ _ h1
  have h0 := ev_rel r ho
  have hcall := hc _ w (Act.eval ⟨tmps, []⟩ o) _ (ρ h) (relB_row hB (fun _ _ => rfl)) (relT_row' hrow rfl h0) h2
  have hrun : (execOp (Act.eval ⟨tmps, []⟩) ⟨some d, .call { callee := .value (.func f), args := (o :: os).toArray, argTypes := ts }, ty, pos, af, none⟩).run P w = .ok (.enter f ((o :: os).toArray.map (Act.eval ⟨tmps, []⟩))) w := by
    have hn' : ¬ fn.name = "runtime.NumGoroutine" := by simpa using hn
    have hb' : ¬ fn.body = none := by intro h; rw [h] at hb; simp at hb
    simp [execOp, resolve, Deferred.ofValue, Act.eval, invoke, callFunc, hf, hn', hb']
  simp only [Oper.wp, hrun, Oper.upon]
  have harr : (o :: os).toArray.map (Act.eval ⟨tmps, []⟩) = (Act.eval ⟨tmps, []⟩ o :: os.map (Act.eval ⟨tmps, []⟩)).toArray := by simp
  rw [harr]
  refine hcall.mono fun en w' ⟨y, he, hr, hfr, hB'⟩ => ?_
  subst he
  have hst : ∀ b, b < w.heap.size → blk (ρ h) ≠ some b → w'.heap[b]? = w.heap[b]? := fun b hb1 hb2 => hfr.block b hb1 hb2
  have r' : Rep okA w0 N (upd ρ h (ρ h)) E ((h, .vi e k L') :: H) tmps w' := by
    refine r.at_ ⟨hfr.os, hfr.tape, hfr.output, hfr.size, fun b hb1 hw => hst b (Nat.lt_of_lt_of_le hb1 r.below.size) (fun e2 => ?_)⟩ (fun b hb1 hne => hst b hb1 (hne _ hm)) (fun b hb1 => .inr ⟨_, hm, hb1⟩) (.inl rfl) (.inl rfl) (fun _ => relB_row hB' (fun _ _ => rfl))
    rcases r.own h _ b hm e2 with h3 | h3
    · omega
    · exact hw h3.2
  refine hK _ _ (kk okA w0 _ _ w' (r'.put (Nat.le_of_ble_eq_true hd) (x := .p res) ?_))
  simp only [RelT]
  refine Rel.mono (fun f b hb' => ⟨hb'.1, fun h' m' hm' => ?_, ?_⟩) (fun _ _ _ => rfl) _ _ hr
  · by_cases hh : h' = h
    · subst hh; rw [upd_same]; exact hb'.2.1
    · rw [upd_other hh]
      rcases hk_cons hm' with ⟨rfl, _⟩ | ⟨_, hm''⟩
      · exact absurd rfl hh
      · rcases hb'.2.2 with h3 | ⟨_, h3⟩
        · intro e2
          exact absurd (r.blk_lt hm'' e2).2 (by omega)
        · exact h3.2.1 h' m' hm''
  · rcases hb'.2.2 with h3 | ⟨h4, h3⟩
    · exact .inl (Nat.le_trans r.below.size h3)
    · rcases h3.2.2 with h5 | h5
      · exact .inl h5
      · exact .inr ⟨h4, h5.2⟩

/-- Function f returns a row of whole numbers of its own making. -/
def ConR (P : Program) (f : FuncId) (args : List PV) (e : TypeId) (k : IntKind) (L : List Int) : Prop :=
  ∀ (rd : Nat → Prop) (w : World) (vs : List Value), Rels w (fun _ b => b < w.heap.size ∧ rd b) args vs →
    Calls P f vs.toArray w fun en w' => ∃ y, en = .returned y ∧ RelB w' (fun _ _ => False) 0 (.vi e k L) y ∧ (∀ b, blk y = some b → w.heap.size ≤ b) ∧ Below w.heap.size w w'

def FinR (rs : List ResultVar) (e : TypeId) (k : IntKind) (L : List Int) : Exit → Env → Hp → Prop := fun en E H =>
  (en = .normal ∨ en = .ret) ∧ ∃ t h, rs = [.tmp t] ∧ lk t E = some (.vec h) ∧ hk h H = some (.vi e k L) ∧ pH h = false

theorem conR_of {f : FuncId} {fn : Func} {c : Code} {args : List PV} {e : TypeId} {k : IntKind} {L : List Int} {rs : List ResultVar} (hf : P.funcs[f]? = some fn) (hb : fn.body = some c) (hN : fn.ntmps = N) (hrs : fn.results = rs.toArray) (ht : noTs args = true) (ha : (Nat.ble args.length N && Nat.ble N 1000000) = true)
    (h : Tr P N c (argsE 0 args) [] (FinR rs e k L)) : ConR P f args e k L := by
  unfold Tr at h
  intro okA w vs hvs
  refine calls_of_wp hf hb ?_
  have hlen : vs.length = args.length := hvs.length
  rw [Bool.and_eq_true] at ha
  have hle : args.length ≤ N := Nat.le_of_ble_eq_true ha.1
  have hsm : N ≤ 1000000 := Nat.le_of_ble_eq_true ha.2
  have r0 : Rep ⟨okA, fun _ => False, undef⟩ w N (fun _ => undef) (argsE 0 args) [] (vs.toArray ++ Array.replicate (fn.ntmps - vs.toArray.size) undef) w := by
    refine ⟨Frm.refl _ _ _, fun h m b hm => by simp [hk] at hm, fun h m hm => by simp [hk] at hm, fun h h' m m' b hm => by simp [hk] at hm, fun i x hx => ?_, by simp; omega, rfl, hsm⟩
    obtain ⟨_, z, hz, rfl⟩ := argsE_lk hx
    simp only [Nat.sub_zero] at hz
    obtain ⟨y, hy, hr⟩ := hvs.get hz
    refine ⟨y, ?_, ?_⟩
    · have hi : i < vs.length := by
        rcases Nat.lt_or_ge i vs.length with h | h
        · exact h
        · rw [List.getElem?_eq_none h] at hy; cases hy
      rw [Array.getElem?_append_left (by simpa using hi)]
      simpa using hy
    · simp only [RelT]
      have hzt : noT z = true := by
        have : ∀ {xs : List PV}, noTs xs = true → ∀ {i : Nat} {z : PV}, xs[i]? = some z → noT z = true := by
          intro xs
          induction xs with
          | nil => intro _ i z h; simp at h
          | cons x xs ih =>
            intro h i z hz
            simp only [noTs, Bool.and_eq_true] at h
            cases i with
            | zero => simp at hz; subst hz; exact h.1
            | succ i => exact ih h.2 (by simpa using hz)
        exact this ht hz
      exact Rel.untag (fun b hb => ⟨hb.1, fun h m hm => by simp [hk] at hm, .inr ⟨rfl, hb.2⟩⟩) z y hzt hr
  refine wp_mono (h _ w _ _ w r0) fun en a w' ⟨h1, h2, h3, ρ, E, H, hr, he, t, hh, hrs', hE, hH, hp⟩ => ?_
  obtain ⟨y, hy, hry⟩ := hr.env _ _ hE
  simp only [RelT] at hry
  subst hry
  have hB := hr.heap _ _ hH
  have hown := fun b hb' => hr.own _ _ b hH hb'
  have hv : (results fn a.tmps).run P w' = .ok (ρ hh) w' := by
    have hre : results fn a.tmps = (do let vs ← fn.results.mapM (resF a.tmps); pure (if h : vs.size = 1 then vs[0] else .tuple vs)) := by
      unfold results
      congr 2
    rw [hre, hrs, hrs']
    simp [resF, hy]
  have hfin : RelB w' (fun _ _ => False) 0 (.vi e k L) (ρ hh) ∧ (∀ b, blk (ρ hh) = some b → w.heap.size ≤ b) ∧ Below w.heap.size w w' :=
    ⟨relB_row hB (fun _ _ => rfl), fun b hb' => (hown b hb').elim id (fun h => by rw [hp] at h; cases h.1), ⟨hr.below.os, hr.below.tape, hr.below.output, hr.below.size, fun k hk => hr.below.block k hk (by simp)⟩⟩
  rcases he with rfl | rfl
  · exact ⟨h3, _, hv, _, rfl, hfin⟩
  · exact ⟨h3, _, hv, _, rfl, hfin⟩

theorem ConR.con {f : FuncId} {args : List PV} {e : TypeId} {k : IntKind} {L : List Int} (h : ConR P f args e k L) : Con P f args (.si true k L) := by
  unfold Con
  intro okA w vs hvs
  refine (h okA w vs hvs).mono fun en w' ⟨y, he, hB, hy, hb⟩ => ⟨y, he, ?_, hb⟩
  have hbd := fun b hb' => (hB.bounds (b := b) hb').2
  simp only [RelB] at hB
  exact seal_vi hB.1 hB.2 (fun b hb' => ⟨hbd b hb', .inl (hy b hb')⟩)

theorem callR_ {d : Nat} {f : FuncId} {fn : Func} {os : Array Operand} {ts : Array TypeId} {ty : TypeId} {pos : String} {af : Array Edge} {args xs : List PV} {e : TypeId} {k : IntKind} {L : List Int} (hf : P.funcs[f]? = some fn) (hn : (fn.name == "runtime.NumGoroutine") = false) (hb : fn.body.isNone = false)
    (hc : ConR P f args e k L) (hx : evs E os.toList = some xs) (hle : Les xs args) (hE : frE d E = true) (hd : Nat.blt d N = true) (kk : TrL P N ops rest ((d, .vec d) :: E) ((d, .vi e k L) :: H) Q) :
    TrL P N ops (⟨some d, .call { callee := .value (.func f), args := os, argTypes := ts }, ty, pos, af, none⟩ :: rest) E H Q := by
  unfold TrL at kk ⊢
  intro okA w0 ρ tmps w r
  refine wpList_plain rfl fun K hK => ?_
  have h1 := Les.rel (fun b hb => okF.tag hb) hle _ (evs_rel r hx)
  have h2 := Rels.mono (ok' := fun _ b => b < w.heap.size ∧ okF okA w0.heap.size ρ H w.heap.size false b) (fun f b hb => ⟨hb.1, by cases f; exact hb; exact hb.tag⟩) (fun _ _ _ => rfl) _ _ h1
  have hcall := hc _ w _ h2
  have hrun : (execOp (Act.eval ⟨tmps, []⟩) ⟨some d, .call { callee := .value (.func f), args := os, argTypes := ts }, ty, pos, af, none⟩).run P w = .ok (.enter f (os.map (Act.eval ⟨tmps, []⟩))) w := by
    have hn' : ¬ fn.name = "runtime.NumGoroutine" := by simpa using hn
    have hb' : ¬ fn.body = none := by intro h; rw [h] at hb; simp at hb
    simp [execOp, resolve, Deferred.ofValue, Act.eval, invoke, callFunc, hf, hn', hb']
  simp only [Oper.wp, hrun, Oper.upon]
  have harr : os.map (Act.eval ⟨tmps, []⟩) = (os.toList.map (Act.eval ⟨tmps, []⟩)).toArray := by apply Array.ext'; simp
  rw [harr]
  refine hcall.mono fun en w' ⟨y, he, hB, hy, hbl⟩ => ?_
  subst he
  have r' : Rep okA w0 N (upd ρ d y) E ((d, .vi e k L) :: H) tmps w' := by
    refine r.at_ ⟨hbl.os, hbl.tape, hbl.output, hbl.size, fun b hb1 _ => hbl.block b (Nat.lt_of_lt_of_le hb1 r.below.size)⟩ (fun b hb1 _ => hbl.block b hb1) (fun b hb1 => .inl (hy b hb1)) (.inr hE) (.inr (pH_lt r hd)) (fun _ => relB_row hB (fun _ _ => rfl))
  exact hK _ _ (kk okA w0 _ _ w' (r'.put (Nat.le_of_ble_eq_true hd) (x := .vec d) (by simp only [RelT, upd_same])))
end

/-! ### Is a slice nil? -/
section
variable {P : Program} {N : Nat} {E : Env} {H : Hp} {Q : Exit → Env → Hp → Prop} {ops : Array Oper} {rest : List Oper}
theorem eql_nil_run {t e : TypeId} {sz : Nat} [ht : TSl P t e sz] (W : World) (A : Option Addr) (n c : Nat) (x y : Operand) :
    (do eqGuard .eql t x y (.slice A n c) (.slice none 0 0); binOp .eql t (.slice A n c) (.slice none 0 0) : Sem Value).run P W = .ok (.bool A.isNone) W := by
  have := run_equal_slice_nil W t e A n c (P := P) ht.out.1
  rw [eqGuard_at_slice]
  simp [binOp, this]
theorem y_nil_ne {x : Operand} {t t' ty e : TypeId} {sz : Nat} {f : Bool} {k : IntKind} {l : List Int} [ht : TSl P t e sz] (hx : evT E x = some (.p (.si f k l))) (h : 0 < l.length) : Yl P (.binOp .eql t x (.const (.slice none 0 0)) t') ty E H (.p (.v (.bool false))) .no := by
  unfold Yl
  intro okA w0 N ρ tmps w r
  have h0 := ev_rel r hx
  simp only [RelT, Rel] at h0
  obtain ⟨A, c, e1, _, _, _, hc⟩ := h0
  obtain ⟨b, o, hA, _⟩ := hc h
  refine ⟨.bool false, fun W _ _ _ _ _ => ?_, by simp [RelT, Rel]⟩
  have := eql_nil_run (P := P) (t := t) W A l.length c x (.const (.slice none 0 0))
  rw [hA] at this e1
  have ec : Act.eval ⟨tmps, []⟩ (.const (.slice none 0 0)) = .slice none 0 0 := rfl
  simp only [execOp, e1, ec]
  rw [Sem.run_bind]
  rw [this]
  rfl
theorem stepNil {d : Nat} {x : Operand} {t t' ty e : TypeId} {sz : Nat} {pos : String} {af : Array Edge} {f : Bool} {k : IntKind} {l : List Int} [ht : TSl P t e sz] (hx : evT E x = some (.p (.si f k l))) (hd : Nat.blt d N = true) (kk : ∀ b : Bool, TrL P N ops rest ((d, .p (.v (.bool b))) :: E) H Q) :
    TrL P N ops (⟨some d, .binOp .eql t x (.const (.slice none 0 0)) t', ty, pos, af, none⟩ :: rest) E H Q := by
  unfold TrL at kk ⊢
  intro okA w0 ρ tmps w r
  have h0 := ev_rel r hx
  simp only [RelT, Rel] at h0
  obtain ⟨A, c, e1, _, _, _, hc⟩ := h0
  refine wpList_plain rfl fun K hK => ?_
  have := eql_nil_run (P := P) (t := t) w A l.length c x (.const (.slice none 0 0))
  have hrun : (execOp (Act.eval ⟨tmps, []⟩) ⟨some d, .binOp .eql t x (.const (.slice none 0 0)) t', ty, pos, af, none⟩).run P w = .ok (.value (.bool A.isNone)) w := by
    have ec : Act.eval ⟨tmps, []⟩ (.const (.slice none 0 0)) = .slice none 0 0 := rfl
    simp only [execOp, e1, ec]
    rw [Sem.run_bind, this]
    rfl
  simp only [Oper.wp, hrun, Oper.upon]
  exact hK _ _ (kk A.isNone okA w0 ρ _ w (r.put (Nat.le_of_ble_eq_true hd) (by simp [RelT, Rel])))
end

/-! ### Strings: walks, comparisons, out of bytes; an array as a slice -/
section
variable {P : Program} {N : Nat} {E : Env} {H : Hp} {Q : Exit → Env → Hp → Prop} {ops : Array Oper} {rest : List Oper}

theorem e_range_str {d : Nat} {t ty : TypeId} {x : Operand} {s : ByteArray} [ht : TStr P t] (hx : evT E x = some (.p (.v (.string s)))) (hd : hk d H = none) (hE : frE d E = true) (hN : Nat.blt d N = true) :
    Eff P N (some d) (.range t x) ty E H ((d, .ptr d 0) :: E) ((d, .it s 0) :: H) [d] := by
  unfold Eff
  intro okA w0 ρ tmps w r
  have hr : Rep okA w0 N (upd ρ d (.pointer (some ⟨w.heap.size, 0, none⟩))) E ((d, .it s 0) :: H) tmps (w.alloc (.stringIter s 0)) := by
    refine r.at_ (.of (below_alloc' w0 w _ r.below.size)) (fun b hb _ => hao w _ b hb) (fun b hb => .inl ?_) (.inr hE) (.inr (pH_lt r hN)) (fun hok => ?_)
    · simp only [blk, Option.some.injEq] at hb; omega
    · simp only [RelB]
      exact ⟨w.heap.size, rfl, Nat.zero_le _, han w _⟩
  refine ⟨.value (.pointer (some ⟨w.heap.size, 0, none⟩)), _, _, w.alloc (.stringIter s 0), fun _ _ _ => ?_, .inl rfl, hr.put (Nat.le_of_ble_eq_true hN) (x := .ptr d 0) ?_, fun b hb _ => hao w _ b hb, by simp, fun h hh => upd_other (by simpa using hh), old_cons, fun h hh b hb => .inl (by simp only [List.mem_singleton] at hh; subst hh; rw [upd_same] at hb; simp only [blk, Option.some.injEq] at hb; omega)⟩
  · have := run_range_string (P := P) w t s ht.out
    simp only [execOp, ev_v r hx, Sem.run_bind, this, Result.andThen_ok, Sem.run_pure]
    rfl
  · simp only [RelT, upd_same]; exact ⟨_, rfl, rfl⟩

/-- The next character of a string. -/
theorem e_next_in {d h : Nat} {ty : TypeId} {x : Operand} {s : ByteArray} {pos : Nat} (hx : evT E x = some (.ptr h 0)) (hm : hk h H = some (.it s pos)) (hlt : pos < s.size) (hN : Nat.blt d N = true) :
    Eff P N (some d) (.next x true) ty E H ((d, .p (.tp [.v (.bool true), .v (.int .i64 pos), .v (.int .i32 (Utf8.decode s pos).1)])) :: E) ((h, .it s (pos + (Utf8.decode s pos).2)) :: H) [h] := by
  unfold Eff
  intro okA w0 ρ tmps w r
  have h0 := ev_rel r hx
  simp only [RelT] at h0
  obtain ⟨g, hg, ea⟩ := h0
  have hb := r.heap h _ hm
  simp only [RelB] at hb
  obtain ⟨g', hg', hB, hh⟩ := hb
  rw [hg] at hg'
  simp only [Value.pointer.injEq, Option.some.injEq, Addr.mk.injEq, and_true] at hg'
  subst hg'
  have hgs : g < w.heap.size := (Array.getElem?_eq_some_iff.1 hh).1
  let w' : World := { w with heap := w.heap.setIfInBounds g (.stringIter s (pos + (Utf8.decode s pos).2)) }
  have hsz : w'.heap.size = w.heap.size := by simp [w']
  have hot : ∀ b, b ≠ g → w'.heap[b]? = w.heap[b]? := fun b hb => by
    show (w.heap.setIfInBounds g _)[b]? = _
    rw [Array.getElem?_setIfInBounds_ne (Ne.symm hb)]
  have hsm : w'.heap[g]? = some (.stringIter s (pos + (Utf8.decode s pos).2)) := by
    show (w.heap.setIfInBounds g _)[g]? = _
    rw [Array.getElem?_setIfInBounds_self_of_lt hgs]
  have hr : Rep okA w0 N (upd ρ h (ρ h)) E ((h, .it s (pos + (Utf8.decode s pos).2)) :: H) tmps w' := by
    refine Rep.at_ r (h := h) (y := ρ h) ⟨rfl, rfl, rfl, by omega, fun k hk hw => hot k (fun e => ?_)⟩ (fun b hb hne => hot b (fun e => hne _ hm (by rw [hg, e]; rfl))) (fun b hb => .inr ⟨_, hm, hb⟩) (.inl rfl) (.inl rfl) (fun hok => ?_)
    · subst e
      rcases r.own h _ k hm (by rw [hg]; rfl) with h1 | h1
      · omega
      · exact hw h1.2
    · simp only [RelB]
      exact ⟨g, hg, Nat.zero_le _, hsm⟩
  refine ⟨.value (.tuple #[.bool true, .int .i64 pos, .int .i32 (Utf8.decode s pos).1]), _, _, w', fun _ _ _ => ?_, .inl rfl, hr.put (Nat.le_of_ble_eq_true hN) ?_, fun b _ hb => hot b (fun e => hb h (by simp) _ hm (by rw [hg, e]; rfl)), by omega, fun k _ => ?_, old_cons, fun h' hh b hb => .inr (by simp only [List.mem_singleton] at hh; subst hh; rw [upd_same] at hb; exact ⟨_, hm, hb⟩)⟩
  · simp only [execOp, ea, Instr.next, getObj, setObj, Sem.run_bind, Sem.run, hh, Result.andThen, hlt, if_true]
    simp [goInt, Sem.run, hh, w']
  · simp only [RelT, Rel]
    exact ⟨[.bool true, .int .i64 pos, .int .i32 (Utf8.decode s pos).1], rfl, by simp [Rels, Rel]⟩
  · by_cases hk : k = h
    · subst hk; exact upd_same
    · exact upd_other hk

theorem e_next_end {d h : Nat} {ty : TypeId} {x : Operand} {s : ByteArray} {pos : Nat} (hx : evT E x = some (.ptr h 0)) (hm : hk h H = some (.it s pos)) (hlt : ¬ pos < s.size) (hN : Nat.blt d N = true) :
    Yl P (.next x true) ty E H (.p (.tp [.v (.bool false)])) (.hd h) := by
  unfold Yl
  intro okA w0 N ρ tmps w r
  have h0 := ev_rel r hx
  simp only [RelT] at h0
  obtain ⟨g, hg, ea⟩ := h0
  have hb := r.heap h _ hm
  simp only [RelB] at hb
  obtain ⟨g', hg', hB, hh⟩ := hb
  rw [hg] at hg'
  simp only [Value.pointer.injEq, Option.some.injEq, Addr.mk.injEq, and_true] at hg'
  subst hg'
  refine ⟨.tuple #[.bool false], fun W hW _ _ _ _ => ?_, ?_⟩
  · have hh' : W.heap[g]? = some (.stringIter s pos) := by rw [hW g (by rw [hg]; rfl)]; exact hh
    simp [execOp, ea, Instr.next, getObj, Sem.run, hh', hlt]
  · simp only [RelT, Rel]
    exact ⟨[.bool false], rfl, by simp [Rels, Rel]⟩

theorem bytes_eq_iff {a b : ByteArray} : (a.toList == b.toList) = decide (a = b) := by
  rw [ByteArray.toList_eq, ByteArray.toList_eq]
  by_cases h : a = b
  · subst h; simp
  · rw [decide_eq_false h]
    refine beq_eq_false_iff_ne.2 fun e => h ?_
    obtain ⟨⟨x⟩⟩ := a
    obtain ⟨⟨y⟩⟩ := b
    simp at e
    rw [e]
theorem y_eqs {x y : Operand} {t t' ty : TypeId} {a b : ByteArray} (hx : evT E x = some (.p (.v (.string a)))) (hy : evT E y = some (.p (.v (.string b)))) : Yl P (.binOp .eql t x y t') ty E H (.p (.v (.bool (decide (a = b))))) .no := by
  unfold Yl
  intro _ _ _ _ _ _ r
  refine ⟨.bool (decide (a = b)), fun W _ _ _ _ _ => ?_, by simp [RelT, Rel]⟩
  simp only [execOp, ev_v r hx, ev_v r hy, eqGuard_at_string, Sem.run_bind, Sem.run_pure, Result.andThen_ok, binOp_string_eql, bytes_eq_iff]

/-- Bytes to a string. -/
theorem y_str_si {x : Operand} {s t ty e : TypeId} {f : Bool} {l : List Int} [hs : TSl P s e 1] [he : TInt P e .u8] [ht : TStr P t] (hx : evT E x = some (.p (.si f .u8 l))) : Yl P (.convert s t x) ty E H (.p (.v (.string (strOfNums l)))) .im := by
  unfold Yl
  intro okA w0 N ρ tmps w r
  have h0 := ev_rel r hx
  simp only [RelT, Rel] at h0
  obtain ⟨A, c, e1, hc, hm, hl, hcell⟩ := h0
  refine ⟨.string (strOfNums l), fun W hW _ _ _ _ => ?_, by simp [RelT, Rel]⟩
  rcases Nat.eq_zero_or_pos l.length with h1 | h1
  · have hn : l = [] := List.eq_nil_of_length_eq_zero h1
    subst hn
    have : (convert s t (.slice A ([] : List Int).length c)).run P W = .ok (.string (strOfNums [])) W := by
      cases A with
      | none => rw [run_convert_bytes_nil W s e hs.out.1 he.out _ _ t ht.out]; rfl
      | some a =>
        have hl0 := run_loadCells_list (P := P) W a [] (by simp)
        rw [run_convert_bytes_string W s t e _ _ c hs.out.1 he.out ht.out, run_bytesToString W _ _ c [] (by simpa using hl0)]
        simp [strOfNums, ByteArray.empty, ByteArray.emptyWithCapacity]
        rfl
    simp only [execOp, e1, Sem.run_bind, this, Result.andThen_ok, Sem.run_pure]
  · obtain ⟨b, o, rfl, hok, hx⟩ := hcell h1
    have := run_convert_bytes_arg (P := P) W s e hs.out.1 he.out b o l.length c l rfl (fun i hi => by
      have := (World.cell?_of_block (w := w) (w' := W) (a := ⟨b, o + i, none⟩) (hW b (by cases f; exact hok.1; exact hok.1.tag))).trans (hx i l[i] (List.getElem?_eq_getElem hi))
      rw [this]
      simp [List.getD, List.getElem?_eq_getElem hi]) t ht.out
    simp only [execOp, e1, Sem.run_bind, this, Result.andThen_ok, Sem.run_pure]

/-- An array of whole numbers in a box, as a slice that from here on is only read. -/
class TArr (P : Program) (t : TypeId) (n : outParam Nat) : Prop where
  out : P.underlying t = some (.array n (P.elem t)) ∧ (P.info? (P.elem t)).map (·.size) = some 1
def arrB (P : Program) (t : TypeId) (n : Nat) : Bool := sizeB P (P.elem t) 1 && match P.underlying t with
  | some (.array n' _) => Nat.beq n n'
  | _ => false
theorem TArr.of {P : Program} {t : TypeId} {n : Nat} (h : arrB P t n = true) : TArr P t n := by
  simp only [arrB, Bool.and_eq_true] at h
  obtain ⟨h1, h2⟩ := h
  refine ⟨?_, sizeB_out h1⟩
  cases hu : P.underlying t with
  | none => rw [hu] at h2; cases h2
  | some d =>
    rw [hu] at h2
    cases d <;> simp_all
    · simp [Program.elem, hu]

theorem run_slice_arr {t : TypeId} {n : Nat} [ht : TArr P t n] (W : World) (g : Nat) :
    (Instr.sliceAt t (.pointer (some ⟨g, 0, none⟩)) none none none).run P W = .ok (.slice (some ⟨g, 0, none⟩) n n) W := by
  have hn : P.arrayLen t = n := by simp [Program.arrayLen, ht.out.1]
  have h1 : P.underlying t = some (.array (P.arrayLen t) (P.elem t)) := by rw [hn]; exact ht.out.1
  obtain ⟨i, hi, hs⟩ := Option.map_eq_some_iff.1 ht.out.2
  rw [run_sliceAt_array_all W t _ h1]
  simp only [sizeOf, typeInfo, hi, Sem.run_bind, run_program, Result.andThen_ok, Sem.run_pure, slicedAt, hn]
  by_cases h0 : n = 0
  · subst h0; simp
  · simp [Addr.add_lit, h0]

theorem y_slice_bx {h n : Nat} {x : Operand} {t ty : TypeId} [ht : TArr P t n] (hx : evT E x = some (.ptr h 0)) : Yl P (.slice t x none none none) ty E H (.vb h n) .no := by
  unfold Yl
  intro okA w0 N ρ tmps w r
  have h0 := ev_rel r hx
  simp only [RelT] at h0
  obtain ⟨g, hg, ea⟩ := h0
  refine ⟨.slice (some ⟨g, 0, none⟩) n n, fun W _ _ _ _ _ => ?_, by simp only [RelT]; exact ⟨g, hg, rfl⟩⟩
  simp only [execOp, ea, Option.map_none, Sem.run_bind, run_slice_arr (P := P) (t := t) W g, Result.andThen_ok, Sem.run_pure]
theorem y_index_arr {h o n : Nat} {x i : Operand} {t ty : TypeId} {ik : IntKind} {j : Int} [ht : TArr P t n] (hx : evT E x = some (.ptr h o)) (hi : evT E i = some (.p (.v (.int ik j)))) (h0 : 0 ≤ j) (h1 : j < n) : Yl P (.indexAddr t x i) ty E H (.ptr h (o + j.toNat)) .no := by
  unfold Yl
  intro okA w0 N ρ tmps w r
  have h2 := ev_rel r hx
  simp only [RelT] at h2
  obtain ⟨g, hg, ea⟩ := h2
  have hn : P.underlying t = some (.array n (P.elem t)) := ht.out.1
  obtain ⟨ie, hie, hs⟩ := Option.map_eq_some_iff.1 ht.out.2
  refine ⟨.pointer (some ⟨g, o + j.toNat, none⟩), fun W _ _ _ _ _ => ?_, by simp only [RelT]; exact ⟨g, hg, rfl⟩⟩
  simp [execOp, ea, ev_v r hi, Instr.indexAt, Instr.sureAddr, run_underlying hn, asIntOf, h0, h1, sizeOf, typeInfo, hie, hs, Addr.add_lit]

theorem vb_seal {okA : Acc} {w0 : World} {ρ : Nat → Value} {tmps : Array Value} {w : World} (r : Rep okA w0 N ρ E H tmps w) {i h n : Nat} {k : IntKind} {l : List Int} {H0 : Hp} (hE : lk i E = some (.vb h n)) (hm : hk h H = some (.bx (ints k l))) (hl : l.length = n) (hn : Nat.blt n 1000000 = true) (hp : pH h = false) (hd : delH h H = some H0) :
    Rep okA w0 N ρ ((i, .p (.si true k l)) :: E) H0 tmps w := by
  have hlim : n < 1000000 := Nat.le_of_ble_eq_true hn
  have hb := r.heap h _ hm
  simp only [RelB] at hb
  obtain ⟨g, t', ys, hg, hB, hh, hys, hone⟩ := hb
  have hown := r.own h _ g hm (by rw [hg]; rfl)
  have hys' := rels_ints' hys
  subst hys'
  have r1 : Rep okA w0 N ρ E H0 tmps w := r.subH (fun i m hi => (delH_spec hd i m hi).2)
  refine r1.set_env hE (fun y hy => ?_)
  simp only [RelT] at hy
  obtain ⟨g2, hg2, rfl⟩ := hy
  rw [hg] at hg2
  simp only [Value.pointer.injEq, Option.some.injEq, Addr.mk.injEq, and_true] at hg2
  subst hg2
  simp only [RelT, Rel]
  refine ⟨some ⟨g, 0, none⟩, n, by rw [hl], by omega, by simp only [maxLen]; omega, by simp only [lim]; omega, fun _ => ⟨g, 0, rfl, ⟨⟨(Array.getElem?_eq_some_iff.1 hh).1, fun h' m' hm' e => ?_, .inl ?_⟩, fun _ => ⟨_, _, hh⟩⟩, fun j u hj => ?_⟩⟩
  · obtain ⟨h1, h2⟩ := delH_spec hd h' m' hm'
    exact r.disj h h' _ m' g hm h2 (Ne.symm h1) (by rw [hg]; rfl) e
  · exact hown.elim id (fun h => by rw [hp] at h; cases h.1)
  · have : (nums k l)[j]? = some (.int k u) := by simp [nums, hj]
    simp [World.cell?, hh, this]
/-- An array's slice is from here on only read. -/
theorem sealb_L {i h n : Nat} {k : IntKind} {H0 : Hp} (l : List Int) (hE : lk i E = some (.vb h n)) (hm : hk h H = some (.bx (ints k l))) (hl : l.length = n) (hn : Nat.blt n 1000000 = true) (hp : pH h = false) (hd : delH h H = some H0) (kk : TrL P N ops rest ((i, .p (.si true k l)) :: E) H0 Q) : TrL P N ops rest E H Q := by
  unfold TrL at kk ⊢
  intro okA w0 ρ tmps w r
  exact kk okA w0 ρ tmps w (vb_seal r hE hm hl hn hp hd)

/-- 'copy(pair[:], l)': the array in the box takes what fits. -/
theorem e_copy_bx {d h n : Nat} {x y : Operand} {ty t1 t2 e : TypeId} {k : IntKind} {l : List Int} {f : Bool} (l0 l' : List Int) [h2 : TSl P t1 e 1] (hx : evT E x = some (.vb h n)) (hm : hk h H = some (.bx (ints k l0))) (hl : l0.length = n) (hy : evT E y = some (.p (.si f k l))) (hN : Nat.blt d N = true)
    (hl' : l' = l.take n ++ l0.drop (l.take n).length) :
    Eff P N (some d) (.call { callee := .builtin .copy, args := #[x, y], argTypes := #[t1, t2] }) ty E H ((d, .p (.v (.int .i64 (min l.length n : Nat)))) :: E) ((h, .bx (ints k l')) :: H) [h] := by
  unfold Eff
  intro okA w0 ρ tmps w r
  have h0 := ev_rel r hx
  simp only [RelT] at h0
  obtain ⟨g, hg, ea⟩ := h0
  have hb := r.heap h _ hm
  simp only [RelB] at hb
  obtain ⟨g', t', ys, hg', hB, hh, hys, hone⟩ := hb
  rw [hg] at hg'
  simp only [Value.pointer.injEq, Option.some.injEq, Addr.mk.injEq, and_true] at hg'
  subst hg'
  have hys' := rels_ints' hys
  subst hys'
  have hv0 := ev_rel r hy
  simp only [RelT, Rel] at hv0
  obtain ⟨A, c, ey, hc, hmx, hlm, hcell⟩ := hv0
  have hcs : (nums k (l.take n)).length = Nat.min l.length n := by simp [nums, Nat.min_comm]
  have hnl : (nums k l0).length = n := by simp [nums, hl]
  have hcopy : (Builtin.copy_ #[t1, t2] ty #[.slice (some ⟨g, 0, none⟩) n n, .slice A l.length c]).run P w = .ok (goInt (nums k (l.take n)).length) (w.setRow g ((nums k l0).toArray.toList.take 0 ++ nums k (l.take n) ++ (nums k l0).toArray.toList.drop (0 + (nums k (l.take n)).length)).toArray) := by
    rcases Nat.eq_zero_or_pos l.length with h1 | h1
    · have hn : l = [] := List.eq_nil_of_length_eq_zero h1
      subst hn
      have := run_copy_none (P := P) w t1 t2 ty e (some ⟨g, 0, none⟩) A n n 0 c h2.out.1 h2.out.2 (by simp)
      simp only [List.length_nil]
      rw [this]
      have := setRow_self w g _ t' (0, 0) hh
      simpa [nums] using this.symm
    · obtain ⟨b, o, rfl, hok, hx⟩ := hcell h1
      refine run_copy_row P w t1 t2 ty e g 0 n n ⟨b, o, none⟩ l.length c _ t' (nums k (l.take n)) h2.out.1 h2.out.2 hh hcs (fun j v hj => ?_) ?_ ?_
      · obtain ⟨u, hu, rfl⟩ : ∃ u, (l.take n)[j]? = some u ∧ v = .int k u := by
          simp only [nums, List.getElem?_map, Option.map_eq_some_iff] at hj
          obtain ⟨u, hu, rfl⟩ := hj
          exact ⟨u, hu, rfl⟩
        have hj2 : l[j]? = some u := by
          have hjl : j < (l.take n).length := (List.getElem?_eq_some_iff.1 hu).1
          rw [List.length_take] at hjl
          rwa [List.getElem?_take_of_lt (by omega)] at hu
        rw [Addr.add_lit]
        exact hx j u hj2
      · simp only [List.size_toArray, hnl, hcs, Nat.zero_add]; exact Nat.min_le_right _ _
      · intro v hv
        simp only [nums, List.mem_map] at hv
        obtain ⟨u, _, rfl⟩ := hv
        rfl
  have hcont : ((nums k l0).toArray.toList.take 0 ++ nums k (l.take n) ++ (nums k l0).toArray.toList.drop (0 + (nums k (l.take n)).length)) = nums k l' := by
    rw [hl']; simp [nums]
  rw [hcont] at hcopy
  have hr : Rep okA w0 N (upd ρ h (ρ h)) E ((h, .bx (ints k l')) :: H) tmps (w.setRow g (nums k l').toArray) := by
    refine Rep.at_ r (h := h) (y := ρ h) (m := .bx (ints k l')) ?_ (fun b hb hne => ?_) (fun b hb => .inr ⟨_, hm, hb⟩) (.inl rfl) (.inl rfl) (fun hok => ?_)
    · exact below_setRow okA _ w g _ (r.own h _ g hm (by rw [hg]; rfl))
    · exact setRow_other w g b _ (fun e => hne _ hm (by rw [hg]; simp [blk, e]))
    · simp only [RelB]
      refine ⟨g, t', nums k l', hg, Nat.zero_le _, setRow_heap w g _ _ t' _ hh, rels_ints, fun u hu => ?_⟩
      simp only [nums, List.mem_map] at hu
      obtain ⟨v, _, rfl⟩ := hu
      rfl
  refine ⟨.value (goInt (nums k (l.take n)).length), _, _, _, fun _ _ _ => ?_, .inl rfl, hr.put (Nat.le_of_ble_eq_true hN) (by simp only [RelT, Rel, goInt, hcs]), fun b _ hb => setRow_other w g b _ (fun e => hb h (by simp) _ hm (by rw [hg]; simp [blk, e])), by simp, fun k _ => ?_, old_cons, fun h' hh b hb => .inr (by simp only [List.mem_singleton] at hh; subst hh; rw [upd_same] at hb; exact ⟨_, hm, hb⟩)⟩
  · simp [execOp, resolve, invoke, builtin, ea, ey, hcopy]
  · by_cases hk : k = h
    · subst hk; exact upd_same
    · exact upd_other hk

def plA (P : Program) (t : TypeId) : Option (List Value × Nat) := match P.info? t, P.underlying t with
  | some it, some (.array n e) => match it.zero, P.info? e with
    | some z, some ie => bif Nat.beq ie.size 1 then some (z.cells.toList, n) else none
    | _, _ => none
  | _, _ => none
class TPa (P : Program) (t : TypeId) (cs : outParam (List PV)) (n : outParam Nat) : Prop where
  out : ∃ z : List Value, cs = z.map PV.v ∧ (∀ u ∈ z, u.oneCell' = true) ∧ ∀ parts, P.built t parts = Instr.fill (fun i => some (i, 1)) z.toArray parts
theorem TPa.of {P : Program} {t n : Nat} {zs : List Value} (h : plA P t = some (zs, n)) (h1 : zs.all (·.oneCell') = true) : TPa P t (zs.map PV.v) n := by
  unfold plA at h
  split at h
  · rename_i it n' e hi hu
    split at h
    · rename_i z ie hz he
      cases hs : Nat.beq ie.size 1 with
      | false => rw [hs] at h; cases h
      | true =>
        rw [hs] at h
        simp only [cond_true, Option.some.injEq, Prod.mk.injEq] at h
        obtain ⟨rfl, rfl⟩ := h
        refine ⟨z.cells.toList, rfl, fun u hu => List.all_eq_true.1 h1 u hu, fun parts => ?_⟩
        simp only [Program.built, hi, hu, hz, he, Nat.eq_of_beq_eq_true hs, Nat.mul_one]
    · cases h
  · cases h
theorem fill_congr {f g : Nat → Option (Nat × Nat)} : ∀ (parts : List (Nat × Value)) (z : Array Value), (∀ q ∈ parts, f q.1 = g q.1) → Instr.fill f z parts = Instr.fill g z parts
  | [], z, h => rfl
  | (i, v) :: r, z, h => by
    have h1 := h (i, v) (by simp)
    simp only at h1
    simp only [Instr.fill, h1]
    cases g i with
    | none => rfl
    | some p =>
      obtain ⟨o, n⟩ := p
      simp only
      split
      · rfl
      · exact fill_congr r _ fun q hq => h q (by simp [hq])
def plN (n : Nat) : List (Nat × Nat) := (List.range n).map fun i => (i, 1)
theorem y_build_arr {t ty n : Nat} {parts : Array (Nat × Operand)} {cs zs : List PV} {xs : List (Nat × PV)} [hp : TPa P t cs n] (hx : evps E parts.toList = some xs) (h1 : onesP xs = true) (hi : parts.toList.all (fun q => Nat.blt q.1 n) = true) (hf : fillP (plN n) cs xs = some zs) : Yl P (.build t parts) ty E H (.p (.ag zs)) .no := by
  unfold Yl
  intro okA w0 N ρ tmps w r
  obtain ⟨z, rfl, hz1, hz2⟩ := hp.out
  obtain ⟨h2, h3⟩ := evps_rel r hx
  have h1' : ∀ p ∈ xs, Av.ones (cellsP p.2) = true := by
    clear hx hf h2 h3
    induction xs with
    | nil => simp
    | cons q qs ih =>
      obtain ⟨i, u⟩ := q
      simp only [onesP, Bool.and_eq_true] at h1
      intro p hp
      rcases List.mem_cons.1 hp with rfl | hp
      · exact h1.1
      · exact ih h1.2 p hp
  obtain ⟨us, hu1, hu2⟩ := fillP_rel (rels_exact z) h2 h3 h1' hf
  refine ⟨.agg us.toArray, fun W _ _ _ _ _ => ?_, by simp only [RelT, Rel]; exact ⟨us, rfl, hu2⟩⟩
  have hcg := fill_congr (f := fun i => some (i, 1)) (g := fun i => (plN n)[i]?) (parts.toList.map fun (i, x) => (i, Act.eval ⟨tmps, []⟩ x)) z.toArray (fun q hq => by
    obtain ⟨q0, hq0, rfl⟩ := List.mem_map.1 hq
    have := Nat.le_of_ble_eq_true (List.all_eq_true.1 hi q0 hq0)
    simp only [plN, List.getElem?_map, List.getElem?_range this, Option.map_some])
  have := run_build (P := P) W t (parts.map fun (i, x) => (i, Act.eval ⟨tmps, []⟩ x)) us.toArray (by rw [hz2, ← hu1, ← hcg]; congr 1; simp)
  simp [execOp, this]
end

/-! ### Rows of structs without addresses: given back, cut, handed to the library -/
mutual
def stabE : PV → Bool
  | .v _ => true
  | .ag cs => stabEs cs
  | .tp cs => stabEs cs
  | _ => false
def stabEs : List PV → Bool
  | [] => true
  | x :: xs => stabE x && stabEs xs
end
mutual
theorem stabE_rel {w w' : World} {ok ok' : Bool → Nat → Prop} : ∀ (x : PV) (y : Value), stabE x = true → Rel w ok x y → Rel w' ok' x y
  | .v x, y, _, h => by simpa only [Rel] using h
  | .si _ _ _, y, hs, h => by simp [stabE] at hs
  | .ss _ _ _, y, hs, h => by simp [stabE] at hs
  | .ag cs, y, hs, h => by
    simp only [stabE] at hs
    simp only [Rel] at h ⊢
    obtain ⟨ys, e, hr⟩ := h
    exact ⟨ys, e, stabEs_rel cs ys hs hr⟩
  | .tp cs, y, hs, h => by
    simp only [stabE] at hs
    simp only [Rel] at h ⊢
    obtain ⟨ys, e, hr⟩ := h
    exact ⟨ys, e, stabEs_rel cs ys hs hr⟩
theorem stabEs_rel {w w' : World} {ok ok' : Bool → Nat → Prop} : ∀ (xs : List PV) (ys : List Value), stabEs xs = true → Rels w ok xs ys → Rels w' ok' xs ys
  | [], ys, _, h => by simpa only [Rels] using h
  | x :: xs, ys, hs, h => by
    simp only [stabEs, Bool.and_eq_true] at hs
    simp only [Rels] at h ⊢
    obtain ⟨y, zs, e, hx, hxs⟩ := h
    exact ⟨y, zs, e, stabE_rel x y hs.1 hx, stabEs_rel xs zs hs.2 hxs⟩
end
def stabM : MB → Bool
  | .vi _ _ _ => true
  | .vs _ _ es => stabEs es
  | _ => false
theorem relB_rowM {w w' : World} {ok ok' : Bool → Nat → Prop} {m : MB} (hs : stabM m = true) {y : Value} (h : RelB w ok 0 m y) (h2 : ∀ b, blk y = some b → w'.heap[b]? = w.heap[b]?) : RelB w' ok' 0 m y := by
  cases m with
  | vi e k l => exact relB_row h h2
  | vs e sz es =>
    simp only [RelB] at h ⊢
    obtain ⟨ys, h3, h4, h5, h6, h7⟩ := h
    exact ⟨ys, stabEs_rel es ys hs h3, h4, own_of_block h5 h2, h6, h7⟩
  | bx _ => cases hs
  | it _ _ => cases hs

section
variable {P : Program} {N : Nat} {E : Env} {H : Hp} {Q : Exit → Env → Hp → Prop} {ops : Array Oper} {rest : List Oper}

/-- Function f returns a row of its own making. -/
def ConRM (P : Program) (f : FuncId) (args : List PV) (m : MB) : Prop :=
  ∀ (rd : Nat → Prop) (w : World) (vs : List Value), Rels w (fun _ b => b < w.heap.size ∧ rd b) args vs →
    Calls P f vs.toArray w fun en w' => ∃ y, en = .returned y ∧ RelB w' (fun _ _ => False) 0 m y ∧ (∀ b, blk y = some b → w.heap.size ≤ b) ∧ Below w.heap.size w w'

def FinRM (rs : List ResultVar) (m : MB) : Exit → Env → Hp → Prop := fun en E H =>
  (en = .normal ∨ en = .ret) ∧ ∃ t h, rs = [.tmp t] ∧ lk t E = some (.vec h) ∧ hk h H = some m ∧ pH h = false

theorem conRM_of {f : FuncId} {fn : Func} {c : Code} {args : List PV} {m : MB} {rs : List ResultVar} (hf : P.funcs[f]? = some fn) (hb : fn.body = some c) (hN : fn.ntmps = N) (hrs : fn.results = rs.toArray) (ht : noTs args = true) (ha : (Nat.ble args.length N && Nat.ble N 1000000) = true)
    (hst : stabM m = true) (h : Tr P N c (argsE 0 args) [] (FinRM rs m)) : ConRM P f args m := by
  unfold Tr at h
  intro okA w vs hvs
  refine calls_of_wp hf hb ?_
  have hlen : vs.length = args.length := hvs.length
  rw [Bool.and_eq_true] at ha
  have hle : args.length ≤ N := Nat.le_of_ble_eq_true ha.1
  have hsm : N ≤ 1000000 := Nat.le_of_ble_eq_true ha.2
  have r0 : Rep ⟨okA, fun _ => False, undef⟩ w N (fun _ => undef) (argsE 0 args) [] (vs.toArray ++ Array.replicate (fn.ntmps - vs.toArray.size) undef) w := by
    refine ⟨Frm.refl _ _ _, fun h _ b hm => by simp [hk] at hm, fun h _ hm => by simp [hk] at hm, fun h h' _ _ b hm => by simp [hk] at hm, fun i x hx => ?_, by simp; omega, rfl, hsm⟩
    obtain ⟨_, z, hz, rfl⟩ := argsE_lk hx
    simp only [Nat.sub_zero] at hz
    obtain ⟨y, hy, hr⟩ := hvs.get hz
    refine ⟨y, ?_, ?_⟩
    · have hi : i < vs.length := by
        rcases Nat.lt_or_ge i vs.length with h | h
        · exact h
        · rw [List.getElem?_eq_none h] at hy; cases hy
      rw [Array.getElem?_append_left (by simpa using hi)]
      simpa using hy
    · simp only [RelT]
      have hzt : noT z = true := by
        have : ∀ {xs : List PV}, noTs xs = true → ∀ {i : Nat} {z : PV}, xs[i]? = some z → noT z = true := by
          intro xs
          induction xs with
          | nil => intro _ i z h; simp at h
          | cons x xs ih =>
            intro h i z hz
            simp only [noTs, Bool.and_eq_true] at h
            cases i with
            | zero => simp at hz; subst hz; exact h.1
            | succ i => exact ih h.2 (by simpa using hz)
        exact this ht hz
      exact Rel.untag (fun b hb => ⟨hb.1, fun h _ hm => by simp [hk] at hm, .inr ⟨rfl, hb.2⟩⟩) z y hzt hr
  refine wp_mono (h _ w _ _ w r0) fun en a w' ⟨h1, h2, h3, ρ, E, H, hr, he, t, hh, hrs', hE, hH, hp⟩ => ?_
  obtain ⟨y, hy, hry⟩ := hr.env _ _ hE
  simp only [RelT] at hry
  subst hry
  have hB := hr.heap _ _ hH
  have hown := fun b hb' => hr.own _ _ b hH hb'
  have hv : (results fn a.tmps).run P w' = .ok (ρ hh) w' := by
    have hre : results fn a.tmps = (do let vs ← fn.results.mapM (resF a.tmps); pure (if h : vs.size = 1 then vs[0] else .tuple vs)) := by
      unfold results
      congr 2
    rw [hre, hrs, hrs']
    simp [resF, hy]
  have hfin : RelB w' (fun _ _ => False) 0 m (ρ hh) ∧ (∀ b, blk (ρ hh) = some b → w.heap.size ≤ b) ∧ Below w.heap.size w w' :=
    ⟨relB_rowM hst hB (fun _ _ => rfl), fun b hb' => (hown b hb').elim id (fun h => by rw [hp] at h; cases h.1), ⟨hr.below.os, hr.below.tape, hr.below.output, hr.below.size, fun k hk => hr.below.block k hk (by simp)⟩⟩
  rcases he with rfl | rfl
  · exact ⟨h3, _, hv, _, rfl, hfin⟩
  · exact ⟨h3, _, hv, _, rfl, hfin⟩

theorem ConRM.con {f : FuncId} {args : List PV} {e : TypeId} {sz : Nat} {es : List PV} (hst : stabEs es = true) (h : ConRM P f args (.vs e sz es)) : Con P f args (.ss true sz es) := by
  unfold Con
  intro okA w vs hvs
  refine (h okA w vs hvs).mono fun en w' ⟨y, he, hB, hy, hb⟩ => ⟨y, he, ?_, hb⟩
  have hbd := fun b hb' => (hB.bounds (b := b) hb').2
  simp only [RelB] at hB
  obtain ⟨ys, h3, h4, h5, _, h6⟩ := hB
  exact seal_vs (stabEs_rel _ _ hst h3) h4 h5 h6 (fun b hb' => ⟨hbd b hb', .inl (hy b hb')⟩)

theorem callRM_ {d : Nat} {f : FuncId} {fn : Func} {os : Array Operand} {ts : Array TypeId} {ty : TypeId} {pos : String} {af : Array Edge} {args xs : List PV} {m : MB} (hf : P.funcs[f]? = some fn) (hn : (fn.name == "runtime.NumGoroutine") = false) (hb : fn.body.isNone = false)
    (hst : stabM m = true) (hc : ConRM P f args m) (hx : evs E os.toList = some xs) (hle : Les xs args) (hE : frE d E = true) (hd : Nat.blt d N = true) (kk : TrL P N ops rest ((d, .vec d) :: E) ((d, m) :: H) Q) :
    TrL P N ops (⟨some d, .call { callee := .value (.func f), args := os, argTypes := ts }, ty, pos, af, none⟩ :: rest) E H Q := by
  unfold TrL at kk ⊢
  intro okA w0 ρ tmps w r
  refine wpList_plain rfl fun K hK => ?_
  have h1 := Les.rel (fun b hb => okF.tag hb) hle _ (evs_rel r hx)
  have h2 := Rels.mono (ok' := fun _ b => b < w.heap.size ∧ okF okA w0.heap.size ρ H w.heap.size false b) (fun f b hb => ⟨hb.1, by cases f; exact hb; exact hb.tag⟩) (fun _ _ _ => rfl) _ _ h1
  have hcall := hc _ w _ h2
  have hrun : (execOp (Act.eval ⟨tmps, []⟩) ⟨some d, .call { callee := .value (.func f), args := os, argTypes := ts }, ty, pos, af, none⟩).run P w = .ok (.enter f (os.map (Act.eval ⟨tmps, []⟩))) w := by
    have hn' : ¬ fn.name = "runtime.NumGoroutine" := by simpa using hn
    have hb' : ¬ fn.body = none := by intro h; rw [h] at hb; simp at hb
    simp [execOp, resolve, Deferred.ofValue, Act.eval, invoke, callFunc, hf, hn', hb']
  simp only [Oper.wp, hrun, Oper.upon]
  have harr : os.map (Act.eval ⟨tmps, []⟩) = (os.toList.map (Act.eval ⟨tmps, []⟩)).toArray := by apply Array.ext'; simp
  rw [harr]
  refine hcall.mono fun en w' ⟨y, he, hB, hy, hbl⟩ => ?_
  subst he
  have r' : Rep okA w0 N (upd ρ d y) E ((d, m) :: H) tmps w' := by
    refine r.at_ ⟨hbl.os, hbl.tape, hbl.output, hbl.size, fun b hb1 _ => hbl.block b (Nat.lt_of_lt_of_le hb1 r.below.size)⟩ (fun b hb1 _ => hbl.block b hb1) (fun b hb1 => .inl (hy b hb1)) (.inr hE) (.inr (pH_lt r hd)) (fun _ => relB_rowM hst hB (fun _ _ => rfl))
  exact hK _ _ (kk okA w0 _ _ w' (r'.put (Nat.le_of_ble_eq_true hd) (x := .vec d) (by simp only [RelT, upd_same])))
/-- 'l = l[:n]': an own row is cut short. -/
theorem own_cut {w : World} {B : Nat} {e : TypeId} {sz : Nat} {g cap n hi : Nat} {xs : List Value} (h : w.ownsRow B e sz (.slice (some ⟨g, 0, none⟩) n cap) n xs) (h1 : hi ≤ n) : w.ownsRow B e sz (.slice (some ⟨g, 0, none⟩) hi cap) hi (xs.take (hi * sz)) := by
  have hle : hi * sz ≤ n * sz := Nat.mul_le_mul_right _ h1
  refine ⟨by rw [List.length_take, h.1]; omega, .inr ?_⟩
  rcases h.2 with ⟨e1, _⟩ | ⟨g', cap', cur, e1, h2, h3, h4, h5, h6, h7⟩
  · simp at e1
  · simp only [Value.slice.injEq, Option.some.injEq, Addr.mk.injEq, and_true, true_and] at e1
    obtain ⟨rfl, rfl⟩ := e1
    exact ⟨g, cap, cur, rfl, h2, h3, by omega, h5, h6, by rw [← h7, List.take_take, Nat.min_eq_left hle]⟩
theorem flat_take {sz : Nat} : ∀ {ys : List Value} {n : Nat}, (∀ z ∈ ys, z.cells.size = sz) → flat (ys.take n) = (flat ys).take (n * sz)
  | [], n, _ => by simp [flat]
  | z :: ys, 0, _ => by simp [flat]
  | z :: ys, n + 1, h => by
    have hz : z.cells.toList.length = sz := by simpa using h z (by simp)
    have ih := flat_take (ys := ys) (n := n) (fun v hv => h v (by simp [hv]))
    simp only [flat, List.take_succ_cons, List.flatMap_cons] at ih ⊢
    rw [ih, List.take_append, hz, List.take_of_length_le (l := z.cells.toList) (by rw [hz, Nat.add_mul]; omega), show (n + 1) * sz - sz = n * sz by rw [Nat.add_mul]; omega]
theorem Rels.take {w : World} {ok : Bool → Nat → Prop} : ∀ {xs : List PV} {ys : List Value} (n : Nat), Rels w ok xs ys → Rels w ok (xs.take n) (ys.take n)
  | _, _, 0, _ => by simp [Rels]
  | [], ys, n + 1, h => by simp only [Rels] at h; subst h; simp [Rels]
  | x :: xs, ys, n + 1, h => by
    simp only [Rels] at h
    obtain ⟨y, zs, rfl, hy, hzs⟩ := h
    simp only [List.take_succ_cons, Rels]
    exact ⟨y, _, rfl, hy, Rels.take n hzs⟩
theorem e_cut_vs {d h : Nat} {t ty e e' : TypeId} {sz : Nat} {o b : Operand} {jk : IntKind} {hi : Int} {es : List PV} {E0 : Env} [ht : TSl P t e sz] (hx : evT E o = some (.vec h)) (hp : pH h = false) (hm : hk h H = some (.vs e' sz es)) (hb : evT E b = some (.p (.v (.int jk hi)))) (h0 : 0 ≤ hi) (h1 : hi ≤ es.length) (hn : 0 < es.length) (hk0 : kill h E = some E0) (hN : Nat.blt d N = true) :
    Eff P N (some d) (.slice t o none (some b) none) ty E H ((d, .vec h) :: E0) ((h, .vs e' sz (es.take hi.toNat)) :: H) [h] := by
  unfold Eff
  intro okA w0 ρ tmps w r
  obtain ⟨h3, h4⟩ := ht.elem
  have e0 := ev_rel r hx
  simp only [RelT] at e0
  have hB := r.heap h _ hm
  simp only [RelB] at hB
  obtain ⟨ys, hr, hs, hown, hone, hlim⟩ := hB
  obtain ⟨g, cap, hg, hcap⟩ : ∃ g cap, ρ h = .slice (some ⟨g, 0, none⟩) es.length cap ∧ es.length ≤ cap := by
    rcases hown.2 with ⟨_, h5⟩ | ⟨g, cap, cur, h5, _, _, h6, _⟩
    · omega
    · exact ⟨g, cap, h5, h6⟩
  rw [hg] at hown
  have hcut := own_cut (hi := hi.toNat) hown (by omega)
  have hlen : (es.take hi.toNat).length = hi.toNat := by rw [List.length_take]; omega
  have hval : sliced (some ⟨g, 0, none⟩) 0 hi.toNat cap sz = .slice (some ⟨g, 0, none⟩) hi.toNat cap := by
    simp [sliced, Addr.add_lit]
  have hrun : ∀ dst pos after guard, (execOp (Act.eval ⟨tmps, []⟩) ⟨dst, .slice t o none (some b) none, ty, pos, after, guard⟩).run P w = .ok (.value (.slice (some ⟨g, 0, none⟩) hi.toNat cap)) w := by
    intro dst pos after guard
    simp only [execOp, e0, hg, Option.map_some, Option.map_none, ev_v r hb, Sem.run_bind, run_sliceAt_slice _ _ _ _ _ _ h3, run_slice_h w t _ es.length cap h3 jk hi h0 (by omega), h4, Result.andThen_ok, Sem.run_pure, hval]
  have hblk : blk (ρ h) = some g := by rw [hg]; rfl
  have hr' := (r.kill hk0).at_ (w' := w) (h := h) (m := .vs e' sz (es.take hi.toNat)) (y := .slice (some ⟨g, 0, none⟩) hi.toNat cap) (Frm.refl _ _ _)
    (fun _ _ _ => rfl) (fun b hb1 => .inr ⟨_, hm, by rw [hblk]; exact hb1⟩) (.inr (kill_spec hk0).1) (.inr hp) (fun hok => by
      simp only [RelB, hlen]
      refine ⟨ys.take hi.toNat, (Rels.mono hok (fun _ _ _ => rfl) _ _ hr).take _, fun z hz => hs z (List.mem_of_mem_take hz), by rw [flat_take hs]; exact hcut, fun u hu => ?_, by omega⟩
      rw [flat_take hs] at hu
      exact hone u (List.mem_of_mem_take hu))
  refine ⟨.value (.slice (some ⟨g, 0, none⟩) hi.toNat cap), _, _, w, fun _ _ _ => hrun _ _ _ _, .inl rfl, hr'.put (Nat.le_of_ble_eq_true hN) (x := .vec h) (by simp only [RelT, upd_same]), fun _ _ _ => rfl, Nat.le_refl _, fun k' hk' => upd_other (by simpa using hk'), old_cons, fun h' hh b hb1 => ?_⟩
  simp only [List.mem_singleton] at hh
  subst hh
  rw [upd_same] at hb1
  exact .inr ⟨_, hm, by rw [hblk]; exact hb1⟩
/-- A function of the library that writes an own row of structs in place, and returns nothing. -/
def ConL (P : Program) (f : FuncId) (xs : List PV) (e : TypeId) (sz : Nat) (es es' : List PV) : Prop :=
  ∀ (w : World) (row : Value) (vs : List Value), RelB w (fun _ _ => False) 0 (.vs e sz es) row → Rels w (fun _ _ => False) xs vs →
    Calls P f (row :: vs).toArray w fun en w' => en = .returned (.tuple #[]) ∧ w.grownBy w' (blk row) ∧ RelB w' (fun _ _ => False) 0 (.vs e sz es') row

theorem callL_ {d : Nat} {f : FuncId} {fn : Func} {o : Operand} {os : List Operand} {ts : Array TypeId} {ty : TypeId} {pos : String} {af : Array Edge} {h sz : Nat} {xs : List PV} {e : TypeId} {es es' : List PV} (hf : P.funcs[f]? = some fn) (hn : (fn.name == "runtime.NumGoroutine") = false) (hb : fn.body.isNone = false)
    (hst : (stabEs es && stabEs es' && stabEs xs) = true) (hc : ConL P f xs e sz es es') (ho : evT E o = some (.vec h)) (hm : hk h H = some (.vs e sz es)) (hx : evs E os = some xs) (hd : Nat.blt d N = true) (kk : TrL P N ops rest ((d, .p (.tp [])) :: E) ((h, .vs e sz es') :: H) Q) :
    TrL P N ops (⟨some d, .call { callee := .value (.func f), args := (o :: os).toArray, argTypes := ts }, ty, pos, af, none⟩ :: rest) E H Q := by
  unfold TrL at kk ⊢
  intro okA w0 ρ tmps w r
  refine wpList_plain rfl fun K hK => ?_
  simp only [Bool.and_eq_true] at hst
  have hB := r.heap h _ hm
  have h0 := ev_rel r ho
  simp only [RelT] at h0
  have h2 := stabEs_rel (w' := w) (ok' := fun _ _ => False) _ _ hst.2 (evs_rel r hx)
  have hcall := hc w (ρ h) _ (relB_rowM (m := .vs e sz es) hst.1.1 hB (fun _ _ => rfl)) h2
  have hrun : (execOp (Act.eval ⟨tmps, []⟩) ⟨some d, .call { callee := .value (.func f), args := (o :: os).toArray, argTypes := ts }, ty, pos, af, none⟩).run P w = .ok (.enter f ((o :: os).toArray.map (Act.eval ⟨tmps, []⟩))) w := by
    have hn' : ¬ fn.name = "runtime.NumGoroutine" := by simpa using hn
    have hb' : ¬ fn.body = none := by intro h; rw [h] at hb; simp at hb
    simp [execOp, resolve, Deferred.ofValue, Act.eval, invoke, callFunc, hf, hn', hb']
  simp only [Oper.wp, hrun, Oper.upon]
  have harr : (o :: os).toArray.map (Act.eval ⟨tmps, []⟩) = (ρ h :: os.map (Act.eval ⟨tmps, []⟩)).toArray := by simp [h0]
  rw [harr]
  refine hcall.mono fun en w' ⟨he, hg, hB'⟩ => ?_
  subst he
  have hst' : ∀ b, b < w.heap.size → blk (ρ h) ≠ some b → w'.heap[b]? = w.heap[b]? := fun b hb1 hb2 => hg.block b hb1 (fun e => hb2 e.symm)
  have r' : Rep okA w0 N (upd ρ h (ρ h)) E ((h, .vs e sz es') :: H) tmps w' := by
    refine r.at_ ⟨hg.os, hg.tape, hg.output, hg.size, fun b hb1 hw => hst' b (Nat.lt_of_lt_of_le hb1 r.below.size) (fun e2 => ?_)⟩ (fun b hb1 hne => hst' b hb1 (hne _ hm)) (fun b hb1 => .inr ⟨_, hm, hb1⟩) (.inl rfl) (.inl rfl) (fun _ => relB_rowM (m := .vs e sz es') hst.1.2 hB' (fun _ _ => rfl))
    rcases r.own h _ b hm e2 with h3 | h3
    · omega
    · exact hw h3.2
  exact hK _ _ (kk okA w0 _ _ w' (r'.put (Nat.le_of_ble_eq_true hd) (x := .p (.tp [])) (by simp only [RelT, Rel, Rels]; exact ⟨[], by simp, rfl⟩)))
end

attribute [irreducible] Tr TrL TrD Yl Eff Con Src ConW ConR
end Go.Av
