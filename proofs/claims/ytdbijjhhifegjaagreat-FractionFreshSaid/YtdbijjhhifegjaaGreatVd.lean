/- Contracts behind a law: no conditions beyond those in each statement. -/
import Derived.Test.YtdbijjhhifegjaaGreatVc
import Derived.Test.YtdbijjhhifegjaaGreatJ6
import Derived.Test.YtdbijjhhifegjaaGreatJ5
set_option maxHeartbeats 8000000
set_option exponentiation.threshold 100000
set_option maxRecDepth 100000
set_option linter.unusedVariables false
set_option linter.unusedSimpArgs false
namespace Go.Av
open Go Go.Proofs Go.RowKit
theorem own3_c (l : List Int) (hl : l.length < 4294967296) : Con Tryz.prog 29 [Li l] (FLi l) := by
  refine con_of Tryz.func29 rfl rfl rfl rfl rfl ?_
  repeat (first | refine seq_ ?_ | refine region_ ?_ | refine nil_ ?_ | refine stepY (y_move rfl) rfl ?_ | refine stepY (y_assign rfl) rfl ?_)
  refine nil_L (i := 4) 65 .u32 rfl rfl rfl ?_
  refine stepE (e_app_vi rfl rfl rfl (src_si rfl) (by simp only [List.length_nil]; omega) rfl rfl) ?_
  repeat (first | refine nil_ ?_ | refine ret_ ?_ | refine stepY (y_assign rfl) rfl ?_)
  rw [List.nil_append]
  ((apply fin_r); (repeat (first | exact .nil | exact .vi rfl rfl rfl | apply ResL.cons)); (repeat (exact .refl _)))
theorem Copy_c (p q : Bool) (l k : List Int) (hl : l.length < 4294967296) (hk : k.length < 4294967296) : Con Tryz.prog 7 [AF p l q k] (.ag [Bo p, FLi l, Bo q, FLi k]) := by
  have h1 := own3_c l hl
  have h2 := own3_c k hk
  refine con_of Tryz.func7 rfl rfl rfl rfl rfl ?_
  repeat (first | refine seq_ ?_ | refine region_ ?_ | refine nil_ ?_ | refine stepE (e_box rfl rfl rfl rfl rfl rfl) ?_ | refine stepE (e_alloc rfl rfl rfl) ?_)
  refine draw_ [(0, true), (1, true), (2, true), (3, true), (4, true), (5, true), (8, true), (9, true), (10, true), (11, true), (12, true), (13, true), (6, false), (7, true), (14, false), (15, true), (16, true), (17, false)] 1000 [1] mixed (by kernel_rfl) rfl ?_
  ((refine dY rfl (y_fieldAddr rfl) rfl rfl rfl rfl ?_); refine dY rfl (y_fieldAddr rfl) rfl rfl rfl rfl ?_; refine dY rfl (y_load1 rfl rfl rfl) rfl rfl rfl rfl ?_; refine dY rfl (y_fieldAddr rfl) rfl rfl rfl rfl ?_; refine dY rfl (y_fieldAddr rfl) rfl rfl rfl rfl ?_; refine dY rfl (y_load1 rfl rfl rfl) rfl rfl rfl rfl ?_; refine dY rfl (y_fieldAddr rfl) rfl rfl rfl rfl ?_; refine dY rfl (y_fieldAddr rfl) rfl rfl rfl rfl ?_; refine dY rfl (y_load1 rfl rfl rfl) rfl rfl rfl rfl ?_; refine dY rfl (y_fieldAddr rfl) rfl rfl rfl rfl ?_; refine dY rfl (y_fieldAddr rfl) rfl rfl rfl rfl ?_; refine dY rfl (y_load1 rfl rfl rfl) rfl rfl rfl rfl ?_)
  refine dC rfl Tryz.func29 rfl rfl (h1) rfl (by repeat (first | exact .refl _ | apply Les.cons | exact .nil)) rfl rfl ?_
  ((refine dY rfl (y_build rfl rfl rfl) rfl rfl rfl rfl ?_))
  refine dC rfl Tryz.func29 rfl rfl (h2) rfl (by repeat (first | exact .refl _ | apply Les.cons | exact .nil)) rfl rfl ?_
  ((refine dY rfl (y_build rfl rfl rfl) rfl rfl rfl rfl ?_); refine dY rfl (y_build rfl rfl rfl) rfl rfl rfl rfl ?_; (refine dE rfl (e_store rfl rfl rfl rfl rfl rfl rfl) rfl rfl ?_); refine dEnd ?_)
  repeat (refine ret_ ?_)
  ((apply fin_r); (repeat (first | exact .nil | exact .agg rfl rfl rfl | apply ResL.cons)); (repeat (exact .refl _)))
section
variable {P : Program} {N : Nat} {E : Env} {H : Hp} {Q : Exit → Env → Hp → Prop} {ops : Array Oper} {rest : List Oper}
theorem y_fieldAddr_ro0 {x : Operand} {s ty : TypeId} {f : Nat} {a b c d : PV} [hf : TFld P s f 0] (hx : evT E x = some (.ro (.ag [a, b, c, d]))) : Yl P (.fieldAddr s x f) ty E H (.ro (.ag [a, b])) .no := y_fieldAddr_ro (P := P) (s := s) (ty := ty) (f := f) (off := 0) (H := H) 2 hx
theorem y_fieldAddr_ro2 {x : Operand} {s ty : TypeId} {f : Nat} {a b c d : PV} [hf : TFld P s f 2] (hx : evT E x = some (.ro (.ag [a, b, c, d]))) : Yl P (.fieldAddr s x f) ty E H (.ro (.ag [c, d])) .no := y_fieldAddr_ro (P := P) (s := s) (ty := ty) (f := f) (off := 2) (H := H) 2 hx
theorem y_fieldAddr_vp {x : Operand} {s ty : TypeId} {f off h o : Nat} [hf : TFld P s f off] (hx : evT E x = some (.vp h o)) : Yl P (.fieldAddr s x f) ty E H (.vp h (o + off)) .no := by
  unfold Yl
  intro _ _ _ _ _ _ r
  obtain ⟨fs, fd, n, h1, h2, h3, h4⟩ := hf.out
  obtain ⟨i, hi, hn⟩ := Option.map_eq_some_iff.1 h4
  have h := ev_rel r hx
  simp only [RelT] at h
  obtain ⟨g, m, c, hg, e⟩ := h
  refine ⟨.pointer (some ⟨g, o + off, none⟩), fun W _ _ _ _ _ => ?_, by simp only [RelT]; exact ⟨g, m, c, hg, rfl⟩⟩
  simp [execOp, e, Instr.fieldAt, run_underlying h1, h2, Instr.sureAddr, fieldPlace, sizeOf, typeInfo, hi, hn, h3, Addr.add_lit]
/-- A part of an element of an own row. -/
theorem y_load_vsp {x : Operand} {t ty e : TypeId} {h sz n off : Nat} {k : Int} {es : List PV} {cs : List PV} [ht : TAgg P t n] (hx : evT E x = some (.vp h (k.toNat * sz + off))) (hm : hk h H = some (.vs e sz es)) (h1 : k < es.length) (h0 : 0 ≤ k) (hz : rdP es k = .ag cs) (hn : off + n ≤ cs.length) : Yl P (.load t x) ty E H (.p (.ag ((cs.drop off).take n))) (.hd h) := by
  unfold Yl
  intro _ _ _ ρ _ w r
  have e0 := ev_rel r hx
  simp only [RelT] at e0
  obtain ⟨g, m, c, hg, e1⟩ := e0
  have hb := r.heap h _ hm
  simp only [RelB] at hb
  obtain ⟨ys, hr, hsz, ho, _⟩ := hb
  have hlt : k.toNat < es.length := by omega
  have hz' : es[k.toNat]? = some (.ag cs) := by rw [← hz]; simp [rdP, List.getD, hlt]
  obtain ⟨y, hy, hry⟩ := hr.get hz'
  simp only [Rel] at hry
  obtain ⟨us, rfl, hus⟩ := hry
  have hul := hus.length
  refine ⟨.agg ((us.drop off).take n).toArray, fun W hW _ _ _ _ => ?_, by simp only [RelT, Rel]; exact ⟨_, rfl, (rels_drop off hus).take n⟩⟩
  have hW' : W.ownsRow _ e sz (ρ h) es.length (flat ys) := own_of_block ho (fun b hb => hW b hb)
  have := loadVar_agg (P := P) (t := t) (n := n) (W := W) (a := ⟨g, k.toNat * sz + off, none⟩) (cs := (us.drop off).take n) (by rw [List.length_take, List.length_drop]; omega) (fun j v hj => by
    rw [List.getElem?_take] at hj
    split at hj
    · rw [List.getElem?_drop] at hj
      have h5 := hW'.cells (g := g) (by rw [hg]; rfl) (k.toNat * sz + (off + j)) v (flat_get hsz hy (off + j) v (by simpa [Value.cells] using hj))
      rw [Addr.add_lit, Nat.zero_add] at h5
      rw [Addr.add_lit, Nat.add_assoc]
      exact h5
    · cases hj)
  simp [execOp, e1, Instr.loadAt, Instr.sureAddr, this]
end
/-- Fractions with new limbs. -/
def Good (es : List PV) : Prop := ∀ e ∈ es, ∃ P l Q k, e = .ag [Bo P, .si true .u32 l, Bo Q, .si true .u32 k]
theorem good_wobB : ∀ {es : List PV}, Good es → wobsB es = true
  | [], _ => rfl
  | e :: es, h => by
    obtain ⟨P, l, Q, k, rfl⟩ := h e (by simp)
    simp only [wobsB, wobB, Bool.true_and, Bool.and_true]
    exact good_wobB (fun x hx => h x (List.mem_cons_of_mem _ hx))
theorem good_wob : ∀ {es ds : List PV}, Good es → wobs es ds → Good ds
  | [], ds, _, h => by simp only [wobs] at h; subst h; exact fun e he => by simp at he
  | e :: es, ds, hg, h => by
    simp only [wobs] at h
    obtain ⟨y, ys, rfl, h1, h2⟩ := h
    intro x hx
    rcases List.mem_cons.1 hx with rfl | hx
    · obtain ⟨P, l, Q, k, rfl⟩ := hg e (by simp)
      simp only [wob, wobs] at h1
      obtain ⟨ds, rfl, y1, z1, rfl, rfl, y2, z2, rfl, ⟨_, l', _, rfl⟩, y3, z3, rfl, rfl, y4, z4, rfl, ⟨_, k', _, rfl⟩, rfl⟩ := h1
      exact ⟨P, l', Q, k', rfl⟩
    · exact good_wob (fun u hu => hg u (List.mem_cons_of_mem _ hu)) h2 x hx
theorem good_at {es : List PV} {k : Nat} (hg : Good es) (h : k < es.length) : ∃ P l Q m, rdP es (k : Int) = .ag [Bo P, .si true .u32 l, Bo Q, .si true .u32 m] := by
  have : rdP es (k : Int) = es[k] := by simp [rdP, List.getD, h]
  rw [this]
  exact hg _ (List.getElem_mem _)
section
variable {N : Nat} {E : Env} {H : Hp} {Q : Exit → Env → Hp → Prop} {ops : Array Oper} {rest : List Oper}
theorem changed2_ (E' : Env) (H' : Hp) {o : Operand} {ts : Array TypeId} {ty : TypeId} {pos : String} {af : Array Edge} {d : Nat} {p : Bool} {l : List Int} (hx : evT E o = some (.p (.ag [.v (.bool p), .si true .u32 l]))) (hE : ∀ i x, lk i E' = some x → lk i E = some x) (hH : ∀ i m, hk i H' = some m → hk i H = some m) (ho : evT E' o = evT E o) (hb : wobHB H' = true) (hd : Nat.blt d N = true)
    (kk : ∀ G, wobH H' G → TrL Tryz.prog N ops rest ((d, .junk) :: keepE E') G Q) :
    TrL Tryz.prog N ops (⟨some d, .call { callee := .value (.func 17), args := #[o], argTypes := ts }, ty, pos, af, none⟩ :: rest) E H Q :=
  TrL.sub (changed_ (ho.trans hx) hb hd kk) hE hH
end
theorem resQ_sh (z : Rat) : ∃ P l Q k e, resQ z = .tp [.ag [Bo P, .si true .u32 l, Bo Q, .si true .u32 k], E_ e] := by
  unfold resQ
  split
  · exact ⟨_, _, _, _, _, rfl⟩
  · exact ⟨_, _, _, _, _, rfl⟩
end Go.Av
