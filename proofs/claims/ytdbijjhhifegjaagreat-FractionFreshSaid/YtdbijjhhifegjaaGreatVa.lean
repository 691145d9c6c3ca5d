/- Contracts behind a law: no conditions beyond those in each statement. -/
import Derived.Test.YtdbijjhhifegjaaGreatJ2
set_option maxHeartbeats 8000000
set_option exponentiation.threshold 100000
set_option maxRecDepth 100000
set_option linter.unusedVariables false
set_option linter.unusedSimpArgs false
namespace Go.Av
open Go Go.RowKit
/-! Memory that is older than what the code makes: cells that are only read; starting anew. -/
/-- cells as they stand in a box: no row is known to be new -/
def oldC : PV → PV
  | .si _ k l => .si false k l
  | x => x
def oldB : PV → Bool
  | .v _ | .si _ _ _ => true
  | _ => false
theorem oldC_rel {w : World} {ok ok' : Bool → Nat → Prop} (h1 : ∀ f b, ok f b → ok' false b) : ∀ {x : PV} {y : Value}, oldB x = true → Rel w ok x y → Rel w ok' (oldC x) y
  | .v x, y, _, h => by simpa only [oldC, Rel] using h
  | .si f k l, y, _, h => by
    simp only [oldC, Rel] at h ⊢
    obtain ⟨A, c, e, hc, hm, hl, hcell⟩ := h
    refine ⟨A, c, e, hc, hm, hl, fun hp => ?_⟩
    obtain ⟨b, o, hA, hok, hx⟩ := hcell hp
    exact ⟨b, o, hA, ⟨h1 _ _ hok.1, fun h => by cases h⟩, hx⟩
theorem oldC_rels {w : World} {ok ok' : Bool → Nat → Prop} (h1 : ∀ f b, ok f b → ok' false b) : ∀ {xs : List PV} {ys : List Value}, xs.all oldB = true → Rels w ok xs ys → Rels w ok' (xs.map oldC) ys
  | [], ys, _, h => by simpa only [List.map_nil, Rels] using h
  | x :: xs, ys, hb, h => by
    simp only [List.all_cons, Bool.and_eq_true] at hb
    simp only [List.map_cons, Rels] at h ⊢
    obtain ⟨y, zs, e, hx, hxs⟩ := h
    exact ⟨y, zs, e, oldC_rel h1 hb.1 hx, oldC_rels h1 hb.2 hxs⟩
def oldF : PV → Bool
  | .v _ => true
  | .si f _ _ => !f
  | _ => false
theorem oldF_rel {w : World} {ok ok' : Bool → Nat → Prop} (h1 : ∀ b, ok false b → ok' false b) : ∀ {x : PV} {y : Value}, oldF x = true → Rel w ok x y → Rel w ok' x y
  | .v x, y, _, h => by simpa only [Rel] using h
  | .si false k l, y, _, h => by
    simp only [Rel] at h ⊢
    obtain ⟨A, c, e, hc, hm, hl, hcell⟩ := h
    refine ⟨A, c, e, hc, hm, hl, fun hp => ?_⟩
    obtain ⟨b, o, hA, hok, hx⟩ := hcell hp
    exact ⟨b, o, hA, ⟨h1 _ hok.1, fun h => by cases h⟩, hx⟩
theorem oldF_rels {w : World} {ok ok' : Bool → Nat → Prop} (h1 : ∀ b, ok false b → ok' false b) : ∀ {xs : List PV} {ys : List Value}, xs.all oldF = true → Rels w ok xs ys → Rels w ok' xs ys
  | [], ys, _, h => by simpa only [Rels] using h
  | x :: xs, ys, hb, h => by
    simp only [List.all_cons, Bool.and_eq_true] at hb
    simp only [Rels] at h ⊢
    obtain ⟨y, zs, e, hx, hxs⟩ := h
    exact ⟨y, zs, e, oldF_rel h1 hb.1 hx, oldF_rels h1 hb.2 hxs⟩
section
variable {P : Program} {N : Nat} {E : Env} {H : Hp} {Q : Exit → Env → Hp → Prop} {ops : Array Oper} {rest : List Oper}
theorem y_load_ro {x : Operand} {t ty : TypeId} {n : Nat} {cs : List PV} [ht : TAgg P t n] (hx : evT E x = some (.ro (.ag cs))) (hn : cs.length = n) (ho : cs.all oldF = true) : Yl P (.load t x) ty E H (.p (.ag cs)) .im := by
    unfold Yl
    intro okA w0 N ρ tmps w r
    have h0 := ev_rel r hx
    simp only [RelT, Rel] at h0
    obtain ⟨b, o, y, e, hok, ⟨ys, rfl, hr⟩, hc⟩ := h0
    refine ⟨.agg ys.toArray, fun W hW _ _ _ _ => ?_, by simp only [RelT, Rel]; exact ⟨ys, rfl, oldF_rels (fun b h => h.1) ho hr⟩⟩
    have := loadVar_agg (P := P) (t := t) (n := n) (W := W) (a := ⟨b, o, none⟩) (cs := ys) (by rw [hr.length, hn]) (fun j v hj => by
      rw [Addr.add_lit, World.cell?_of_block (w := w) (w' := W) (a := ⟨b, o + j, none⟩) (hW b hok.1)]
      exact hc j v (by simpa [Value.cells] using hj))
    simp [execOp, e, Instr.loadAt, Instr.sureAddr, this]
theorem rels_drop {w : World} {ok : Bool → Nat → Prop} : ∀ {xs : List PV} {ys : List Value} (n : Nat), Rels w ok xs ys → Rels w ok (xs.drop n) (ys.drop n)
  | _, _, 0, h => h
  | [], ys, n + 1, h => by simp only [Rels] at h; subst h; simp [Rels]
  | x :: xs, ys, n + 1, h => by
    simp only [Rels] at h
    obtain ⟨y, zs, rfl, hy, hzs⟩ := h
    simp only [List.drop_succ_cons]
    exact rels_drop n hzs
theorem y_fieldAddr_ro {x : Operand} {s ty : TypeId} {f off : Nat} {cs : List PV} (n : Nat) [hf : TFld P s f off] (hx : evT E x = some (.ro (.ag cs))) : Yl P (.fieldAddr s x f) ty E H (.ro (.ag ((cs.drop off).take n))) .no := by
    unfold Yl
    intro okA w0 N ρ tmps w r
    obtain ⟨fs, fd, m, h1', h2, h3, h4⟩ := hf.out
    obtain ⟨i, hi, hn⟩ := Option.map_eq_some_iff.1 h4
    have h := ev_rel r hx
    simp only [RelT, Rel] at h
    obtain ⟨b, o, u, e, hok, ⟨ys, rfl, hs⟩, hc⟩ := h
    refine ⟨.pointer (some ⟨b, o + off, none⟩), fun W hW _ _ _ _ => ?_, ?_⟩
    · simp [execOp, e, Instr.fieldAt, run_underlying h1', h2, Instr.sureAddr, fieldPlace, sizeOf, typeInfo, hi, hn, h3, Addr.add_lit]
    · simp only [RelT, Rel]
      refine ⟨b, o + off, .agg ((ys.drop off).take n).toArray, rfl, hok, ⟨(ys.drop off).take n, rfl, (rels_drop off hs).take n⟩, fun j v hj => ?_⟩
      have hj' : ((ys.drop off).take n)[j]? = some v := by simpa [Value.cells] using hj
      rw [List.getElem?_take] at hj'
      split at hj'
      · rw [List.getElem?_drop] at hj'
        rw [Nat.add_assoc]
        exact hc (off + j) v (by simpa [Value.cells] using hj')
      · cases hj'
/-- The temporaries that point to boxes: their boxes' cells as old memory. -/
def oldE (E : Env) (H : Hp) : List Nat → Option Env
  | [] => some []
  | i :: is => match lk i E, oldE E H is with
    | some (.ptr h 0), some r => match hk h H with
      | some (.bx cs) => bif cs.all oldB then some ((i, .ro (.ag (cs.map oldC))) :: r) else none
      | _ => none
    | _, _ => none
theorem oldE_spec {E : Env} {H : Hp} : ∀ {is : List Nat} {E1 : Env}, oldE E H is = some E1 → ∀ i x, lk i E1 = some x → ∃ h cs, x = .ro (.ag (cs.map oldC)) ∧ lk i E = some (.ptr h 0) ∧ hk h H = some (.bx cs) ∧ cs.all oldB = true
  | [], E1, h, i, x, hx => by simp only [oldE, Option.some.injEq] at h; subst h; simp [lk] at hx
  | j :: is, E1, h, i, x, hx => by
    unfold oldE at h
    split at h
    · rename_i h' r e1 e2
      split at h
      · rename_i cs e3
        cases hb : cs.all oldB with
        | false => rw [hb] at h; cases h
        | true =>
          rw [hb] at h
          simp only [cond_true, Option.some.injEq] at h
          subst h
          simp only [lk] at hx
          cases hij : Nat.beq i j with
          | true =>
            rw [hij] at hx
            simp only [cond_true, Option.some.injEq] at hx
            have := Nat.eq_of_beq_eq_true hij
            subst this
            exact ⟨_, cs, hx.symm, e1, e3, hb⟩
          | false =>
            rw [hij] at hx
            simp only [cond_false] at hx
            exact oldE_spec e2 i x hx
      · cases h
    · cases h
/-- The code goes on as if it began here: all memory is old; behind it one temporary's value is told. -/
theorem restart_ {c : Code} (is : List Nat) {E1 : Env} (t : Nat) (v : Value) (hE : oldE E H is = some E1) (h : Tr P N c E1 [] (fun e E' _ => (e = .normal ∨ e = .ret) ∧ lk t E' = some (.p (.v v)))) (hQ : ∀ e, (e = .normal ∨ e = .ret) → Q e [(t, .p (.v v))] []) : Tr P N c E H Q := by
  unfold Tr at h ⊢
  intro okA w0 ρ tmps w r
  have r1 : Rep ⟨fun b => b < w.heap.size, fun _ => False, undef⟩ w N (fun _ => undef) E1 [] tmps w := by
    refine ⟨Frm.refl _ _ _, fun h m b hm => by simp [hk] at hm, fun h m hm => by simp [hk] at hm, fun h h' m m' b hm => by simp [hk] at hm, fun i x hx => ?_, r.size, rfl, r.small⟩
    obtain ⟨k, cs, rfl, e1, e2, hb⟩ := oldE_spec hE i x hx
    obtain ⟨y, hy, e⟩ := r.env i _ e1
    simp only [RelT] at e
    obtain ⟨g, eg1, eg2⟩ := e
    have hB := r.heap k _ e2
    simp only [RelB] at hB
    obtain ⟨g', t', ys, e3, _, hg, hr, h1⟩ := hB
    rw [eg1] at e3
    simp only [Value.pointer.injEq, Option.some.injEq, Addr.mk.injEq, and_true] at e3
    subst e3
    have hlt : ∀ b, b < w.heap.size → okF ⟨fun b => b < w.heap.size, fun _ => False, undef⟩ w.heap.size (fun _ => undef) [] w.heap.size false b ∧ ¬ okF ⟨fun b => b < w.heap.size, fun _ => False, undef⟩ w.heap.size (fun _ => undef) [] w.heap.size true b := fun b hb =>
      ⟨⟨hb, fun h m hm => by simp [hk] at hm, .inr ⟨rfl, hb⟩⟩, fun hn => hn.2.2.elim (fun h => by omega) (fun h => by cases h.1)⟩
    refine ⟨y, hy, ?_⟩
    simp only [RelT, Rel]
    refine ⟨g, 0, .agg ys.toArray, eg2, hlt g (Array.getElem?_eq_some_iff.1 hg).1, ⟨ys, rfl, oldC_rels (fun f b hok => hlt b hok.1) hb hr⟩, fun j u hj => ?_⟩
    have hj' : ys[j]? = some u := by simpa [Value.cells] using hj
    rw [cell_of_row w g (0 + j) _ _ _ hg, Nat.zero_add]
    simpa using hj'
  refine wp_mono (h _ _ _ _ _ r1) fun e a w' ⟨h1, h2, h3, ρ', E', H', r', he, hl⟩ => ⟨h1, h2, h3, ρ, [(t, .p (.v v))], [], ?_, hQ e he⟩
  obtain ⟨y, hy, hr⟩ := r'.env t _ hl
  simp only [RelT, Rel] at hr
  subst hr
  refine ⟨r.below.trans ⟨r'.below.os, r'.below.tape, r'.below.output, r'.below.size, fun k hk _ => r'.below.block k (Nat.lt_of_lt_of_le hk r.below.size) (fun h => h)⟩, fun h m b hm => by simp [hk] at hm, fun h m hm => by simp [hk] at hm, fun h h' m m' b hm => by simp [hk] at hm, fun i x hx => ?_, r'.size, r.lent, r.small⟩
  simp only [lk] at hx
  cases hij : Nat.beq i t with
  | true =>
    rw [hij] at hx
    simp only [cond_true, Option.some.injEq] at hx
    have := Nat.eq_of_beq_eq_true hij
    subst this
    subst hx
    exact ⟨_, hy, by simp only [RelT, Rel]⟩
  | false => rw [hij] at hx; cases hx
end
end Go.Av
