/- Contracts behind a law: no conditions beyond those in each statement. -/
import Derived.Test.YtnkkkeohhgbhnaaJ2
set_option maxHeartbeats 8000000
set_option exponentiation.threshold 100000
set_option maxRecDepth 100000
set_option linter.unusedVariables false
set_option linter.unusedSimpArgs false
namespace Go.Av
open Go Go.Proofs

open Go.RowKit
/-! Rows of points that are only read: their parts; are they nil? -/
theorem flat_drop {sz : Nat} : ∀ {ys : List Value} {n : Nat}, (∀ z ∈ ys, z.cells.size = sz) → flat (ys.drop n) = (flat ys).drop (n * sz)
  | [], n, _ => by simp [flat]
  | z :: ys, 0, _ => by simp [flat]
  | z :: ys, n + 1, h => by
    have hz : z.cells.toList.length = sz := by simpa using h z (by simp)
    have ih := flat_drop (ys := ys) (n := n) (fun v hv => h v (by simp [hv]))
    simp only [flat, List.drop_succ_cons, List.flatMap_cons] at ih ⊢
    rw [ih, List.drop_append, hz, List.drop_of_length_le (l := z.cells.toList) (by rw [hz, Nat.add_mul]; omega), show (n + 1) * sz - sz = n * sz by rw [Nat.add_mul]; omega, List.nil_append]
theorem Rels.drop {w : World} {ok : Bool → Nat → Prop} : ∀ {xs : List PV} {ys : List Value} (n : Nat), Rels w ok xs ys → Rels w ok (xs.drop n) (ys.drop n)
  | _, _, 0, h => h
  | [], ys, n + 1, h => by simp only [Rels] at h; subst h; simp [Rels]
  | x :: xs, ys, n + 1, h => by
    simp only [Rels] at h
    obtain ⟨y, zs, rfl, hy, hzs⟩ := h
    simp only [List.drop_succ_cons]
    exact Rels.drop n hzs
theorem cut_ss {w : World} {ok : Bool → Nat → Prop} {f : Bool} {sz : Nat} {es : List PV} {A : Option Addr} {c lo hi : Nat} (h : Rel w ok (.ss f sz es) (.slice A es.length c)) (h1 : lo ≤ hi) (h2 : hi ≤ es.length) : Rel w ok (.ss f sz ((es.take hi).drop lo)) (sliced A lo hi c sz) := by
  simp only [Rel] at h ⊢
  obtain ⟨A', c', ys, e, hc, hm, hl, hr, hs, hcell⟩ := h
  simp only [Value.slice.injEq, true_and] at e
  obtain ⟨rfl, rfl⟩ := e
  have hlen : ((es.take hi).drop lo).length = hi - lo := by simp; omega
  have hs2 : ∀ z ∈ ys.take hi, z.cells.size = sz := fun z hz => hs z (List.mem_of_mem_take hz)
  refine ⟨_, _, (ys.take hi).drop lo, by rw [hlen]; rfl, by omega, by omega, by omega, (hr.take hi).drop lo, fun z hz => hs2 z (List.mem_of_mem_drop hz), fun hp => ?_⟩
  obtain ⟨b, o, rfl, hok, hx⟩ := hcell (by omega)
  refine ⟨b, o + lo * sz, ?_, hok, fun j x hj => ?_⟩
  · rw [if_neg (by omega)]; simp [Addr.add_lit]
  · rw [Nat.add_assoc]
    refine hx (lo * sz + j) x ?_
    rw [flat_drop hs2, flat_take hs, List.getElem?_drop, List.getElem?_take] at hj
    split at hj
    · exact hj
    · cases hj
theorem pts_drop (a : List Pt) (n : Nat) : pts (a.drop n) = (pts a).drop n := by simp [pts]
section
variable {P : Program} {N : Nat} {E : Env} {H : Hp} {Q : Exit → Env → Hp → Prop} {ops : Array Oper} {rest : List Oper}
theorem y_slice_ps_h {x b : Operand} {t ty e : TypeId} {sz : Nat} {f : Bool} {jk : IntKind} {l : List Pt} {hi : Int} [ht : TSl P t e sz] (hx : evT E x = some (.p (.ss f sz (pts l)))) (hb : evT E b = some (.p (.v (.int jk hi)))) (h0 : 0 ≤ hi) (h2 : hi ≤ l.length) :
    Yl P (.slice t x none (some b) none) ty E H (.p (.ss f sz (pts (l.take hi.toNat)))) .no := by
  unfold Yl
  intro _ _ _ _ _ _ r
  obtain ⟨h3, h4⟩ := ht.elem
  have h := ev_rel r hx
  have hx0 := h
  simp only [RelT, Rel] at h
  obtain ⟨A, c, ys, e1, hc, hm, hl, _⟩ := h
  rw [pts_len] at hc
  rw [e1] at hx0
  refine ⟨_, fun W _ _ _ _ _ => ?_, by simp only [RelT] at hx0 ⊢; have := cut_ss hx0 (lo := 0) (hi := hi.toNat) (by omega) (by rw [pts_len]; omega); rwa [List.drop_zero, ← pts_take] at this⟩
  simp only [execOp, e1, Option.map_some, Option.map_none, ev_v r hb, Sem.run_bind, run_sliceAt_slice _ _ _ _ _ _ h3, run_slice_h W t A (pts l).length c h3 jk hi h0 (by omega), h4, Result.andThen_ok, Sem.run_pure]
theorem y_slice_ps_l {x a : Operand} {t ty e : TypeId} {sz : Nat} {f : Bool} {ik : IntKind} {l : List Pt} {lo : Int} [ht : TSl P t e sz] (hx : evT E x = some (.p (.ss f sz (pts l)))) (ha : evT E a = some (.p (.v (.int ik lo)))) (h0 : 0 ≤ lo) (h2 : lo ≤ l.length) :
    Yl P (.slice t x (some a) none none) ty E H (.p (.ss f sz (pts (l.drop lo.toNat)))) .no := by
  unfold Yl
  intro _ _ _ _ _ _ r
  obtain ⟨h3, h4⟩ := ht.elem
  have h := ev_rel r hx
  have hx0 := h
  simp only [RelT, Rel] at h
  obtain ⟨A, c, ys, e1, hc, hm, hl, _⟩ := h
  rw [e1] at hx0
  refine ⟨_, fun W _ _ _ _ _ => ?_, by simp only [RelT] at hx0 ⊢; have := cut_ss hx0 (lo := lo.toNat) (hi := (pts l).length) (by rw [pts_len]; omega) (Nat.le_refl _); rwa [List.take_length, ← pts_drop] at this⟩
  simp only [execOp, e1, Option.map_some, Option.map_none, ev_v r ha, Sem.run_bind, run_sliceAt_slice _ _ _ _ _ _ h3, run_slice_l W t A (pts l).length c h3 ik lo h0 (by rw [pts_len]; omega), h4, Result.andThen_ok, Sem.run_pure]
theorem y_nil_nes {x : Operand} {t t' ty e : TypeId} {sz sz' : Nat} {f : Bool} {l : List Pt} [ht : TSl P t e sz] (hx : evT E x = some (.p (.ss f sz' (pts l)))) (h : 0 < l.length) : Yl P (.binOp .eql t x (.const (.slice none 0 0)) t') ty E H (.p (.v (.bool false))) .no := by
  unfold Yl
  intro okA w0 N ρ tmps w r
  have h0 := ev_rel r hx
  simp only [RelT, Rel] at h0
  obtain ⟨A, c, ys, e1, _, _, _, _, _, hc⟩ := h0
  obtain ⟨b, o, hA, _⟩ := hc (by rw [pts_len]; exact h)
  refine ⟨.bool false, fun W _ _ _ _ _ => ?_, by simp [RelT, Rel]⟩
  have := eql_nil_run (P := P) (t := t) W A (pts l).length c x (.const (.slice none 0 0))
  rw [hA] at this e1
  have ec : Act.eval ⟨tmps, []⟩ (.const (.slice none 0 0)) = .slice none 0 0 := rfl
  simp only [execOp, e1, ec]
  rw [Sem.run_bind]
  rw [this]
  rfl
theorem stepNils {d : Nat} {x : Operand} {t t' ty e : TypeId} {sz sz' : Nat} {pos : String} {af : Array Edge} {f : Bool} {l : List PV} [ht : TSl P t e sz] (hx : evT E x = some (.p (.ss f sz' l))) (hd : Nat.blt d N = true) (kk : ∀ b : Bool, TrL P N ops rest ((d, .p (.v (.bool b))) :: E) H Q) :
    TrL P N ops (⟨some d, .binOp .eql t x (.const (.slice none 0 0)) t', ty, pos, af, none⟩ :: rest) E H Q := by
  unfold TrL at kk ⊢
  intro okA w0 ρ tmps w r
  have h0 := ev_rel r hx
  simp only [RelT, Rel] at h0
  obtain ⟨A, c, ys, e1, _, _, _, _, _, hc⟩ := h0
  refine wpList_plain rfl fun K hK => ?_
  have := eql_nil_run (P := P) (t := t) w A l.length c x (.const (.slice none 0 0))
  have hrun : (execOp (Act.eval ⟨tmps, []⟩) ⟨some d, .binOp .eql t x (.const (.slice none 0 0)) t', ty, pos, af, none⟩).run P w = .ok (.value (.bool A.isNone)) w := by
    have ec : Act.eval ⟨tmps, []⟩ (.const (.slice none 0 0)) = .slice none 0 0 := rfl
    simp only [execOp, e1, ec]
    rw [Sem.run_bind, this]
    rfl
  simp only [Oper.wp, hrun, Oper.upon]
  exact hK _ _ (kk A.isNone okA w0 ρ _ w (r.put (Nat.le_of_ble_eq_true hd) (by simp [RelT, Rel])))
end
section
variable {P : Program} {N : Nat} {E : Env} {H : Hp} {Q : Exit → Env → Hp → Prop} {ops : Array Oper} {sx : Nat} {plan : List (Nat × Bool)} {ob ph : Bool} {St : List Nat}
/-- A row of structs of the call's own is from here on only read: in a region that draws its order. -/
theorem seal_Ds {i h : Nat} {e : TypeId} {sz : Nat} {es : List PV} {H0 : Hp} (hE : lk i E = some (.vec h)) (hm : hk h H = some (.vs e sz es)) (hp : pH h = false) (hd : delH h H = some H0) (kk : TrD P N ops sx plan ob false St ((i, .p (.ss true sz es)) :: E) H0 Q) : TrD P N ops sx plan ob false St E H Q := by
  unfold TrD at kk ⊢
  intro okA w0 ρ tmps w w1 stab listed r hpl h1 h2 h3 h4 h5
  obtain ⟨r1, hr⟩ := sealed_vs r hm hp hd
  exact kk okA w0 ρ tmps w w1 stab listed (r1.set_env hE (fun y hy => by simp only [RelT] at hy ⊢; subst hy; exact hr)) hpl h1
    (fun ho h' hs m b hm' hb => h2 ho h' hs m b (delH_spec hd h' m hm').2 hb) (fun ho h' m b hm' hn hb => h3 ho h' m b (delH_spec hd h' m hm').2 hn hb) (fun _ e => by cases e) h5
/-- The one operation that may come up is a call that answers an own row. -/
theorem dCM {i d : Nat} {f : FuncId} {fn : Func} {os : Array Operand} {ts : Array TypeId} {ty : TypeId} {pos : String} {af : Array Edge} {g : Option (Nat × Bool)} {args xs : List PV} {m : MB} (hi : ops[i]? = some ⟨some d, .call { callee := .value (.func f), args := os, argTypes := ts }, ty, pos, af, g⟩)
    (hf : P.funcs[f]? = some fn) (hn : (fn.name == "runtime.NumGoroutine") = false) (hb : fn.body.isNone = false) (hst : stabM m = true) (hc : ConRM P f args m) (hx : evs E os.toList = some xs) (hle : Les xs args) (hg : wantB ops E g = some true) (hE : frE d E = true) (hd : (Nat.blt d N && !(Nat.beq i sx) && !St.any (Nat.beq d)) = true)
    (k : TrD P N ops sx plan ob false St ((d, .vec d) :: E) ((d, m) :: H) Q) : TrD P N ops sx ((i, false) :: plan) ob ph St E H Q := by
  unfold TrD at k ⊢
  intro okA w0 ρ tmps w w1 stab listed r hp h1 h2 h3 h4 h5
  simp only [planOk, cond_false, Bool.and_eq_true, beq_iff_eq] at hp
  obtain ⟨⟨hs, hr⟩, hp⟩ := hp
  simp only [Bool.and_eq_true] at hd
  obtain ⟨⟨hd, hx'⟩, hdS⟩ := hd
  have hne : i ≠ sx := fun e => by subst e; rw [Nat.beq_refl] at hx'; cases hx'
  have hdn : d ∉ St := fun hmem => by
    simp only [Bool.not_eq_true', List.any_eq_false] at hdS
    exact hdS d hmem (by simp)
  refine wpAnyS_all hr (by simp) (fun j hj => ?_)
  simp only [List.mem_singleton] at hj
  subst hj
  have hl1 := Les.rel (fun b hb => okF.tag hb) hle _ (evs_rel r hx)
  have hl2 := Rels.mono (ok' := fun _ b => b < w.heap.size ∧ okF okA w0.heap.size ρ H w.heap.size false b) (fun f b hb => ⟨hb.1, by cases f; exact hb; exact hb.tag⟩) (fun _ _ _ => rfl) _ _ hl1
  have hcall := hc _ w _ hl2
  have hrun : (execOp (Act.eval ⟨tmps, []⟩) ⟨some d, .call { callee := .value (.func f), args := os, argTypes := ts }, ty, pos, af, g⟩).run P w = .ok (.enter f (os.map (Act.eval ⟨tmps, []⟩))) w := by
    have hn' : ¬ fn.name = "runtime.NumGoroutine" := by simpa using hn
    have hb' : ¬ fn.body = none := by intro h; rw [h] at hb; simp at hb
    simp [execOp, resolve, Deferred.ofValue, Act.eval, invoke, callFunc, hf, hn', hb']
  unfold wpOp
  simp only [hi]
  rw [if_pos (want_spec r hg)]
  refine .inl ?_
  simp only [Oper.wp, hrun, Oper.upon]
  have harr : os.map (Act.eval ⟨tmps, []⟩) = (os.toList.map (Act.eval ⟨tmps, []⟩)).toArray := by apply Array.ext'; simp
  rw [harr]
  refine hcall.mono fun en w' ⟨y, he, hB, hy, hbl⟩ => ?_
  subst he
  have r' : Rep okA w0 N (upd ρ d y) E ((d, m) :: H) tmps w' := by
    refine r.at_ ⟨hbl.os, hbl.tape, hbl.output, hbl.size, fun b hb1 _ => hbl.block b (Nat.lt_of_lt_of_le hb1 r.below.size)⟩ (fun b hb1 _ => hbl.block b hb1) (fun b hb1 => .inl (hy b hb1)) (.inr hE) (.inr (pH_lt r hd)) (fun _ => relB_rowM hst hB (fun _ _ => rfl))
  have h1' : ob = true → ∀ b, stab b → b < w'.heap.size ∧ w'.heap[b]? = w1.heap[b]? := fun ho b hb => ⟨Nat.lt_of_lt_of_le (h1 ho b hb).1 hbl.size, by rw [hbl.block b (h1 ho b hb).1]; exact (h1 ho b hb).2⟩
  refine ⟨fun h b hb => (h1' (notT h5 hne h) b hb).2, k okA w0 _ _ w' w1 stab _ (r'.put (Nat.le_of_ble_eq_true hd) (x := .vec d) (by simp only [RelT, upd_same])) hp h1' (fun ho h hs m' b hm hb => ?_) (fun ho h m' b hm hn' hb hst' => ?_) (fun _ e => by cases e) (by rw [getD_set_ne false hne]; exact h5)⟩
  · have hhd : h ≠ d := fun e => hdn (e ▸ hs)
    rcases hk_cons hm with ⟨e, _⟩ | ⟨_, hm'⟩
    · exact absurd e.symm (fun e => hhd e.symm)
    · rw [upd_other hhd] at hb
      exact h2 ho h hs m' b hm' hb
  · rcases hk_cons hm with ⟨e, _⟩ | ⟨hne', hm'⟩
    · subst e
      rw [upd_same] at hb
      have := (h1 ho b hst').1
      have := hy b hb
      omega
    · have hhd : h ≠ d := fun e => hne' (by rw [e])
      rw [upd_other hhd] at hb
      exact h3 ho h m' b hm' hn' hb hst'
end
end Go.Av
