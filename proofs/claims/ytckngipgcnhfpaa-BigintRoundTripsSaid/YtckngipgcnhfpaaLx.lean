import Derived.Test.YtckngipgcnhfpaaL9
import Derived.Test.YtckngipgcnhfpaaRows
import Derived.WalkKit
import Derived.ProofKit
import Derived.OpenShut
import Derived.ShutString
import Derived.ChangeOld
import Derived.Below
import Derived.SizedLaws
import Derived.Lib.SmallJoins
import Derived.Carry
set_option linter.unusedVariables false
set_option linter.unusedSimpArgs false
/-! What a row says of an argument, as an abstract value. -/
namespace Go.Av
open Go Go.Proofs Go.ChangeShapes Go.WideShapes Go.ChangeAt Go.RowKit Go.Joins
section
variable {H : Type} {enc : TypeId × Value → H} {W : World} {base : Nat}
def Wide (k : IntKind) (l : List Int) : Prop := ∀ n ∈ l, (Lit.int k n).wf = true
theorem ints_rel {P : Program} {t e : TypeId} {k : IntKind} {v : Value} {fuel : Nat} {x : DataW H × List MemPlace} (ht : P.underlying t = some (.slice e)) (he : P.underlying e = some (.int k)) (hc : P.cellsOf e = 1) (hB : 0 < P.bytesOf e)
    (h : DataW.trod enc P W 0 (fun _ => true) true fuel t [v] = some x) (hb : ∀ n ∈ x.1.weights P t, n ≤ reachBytes) : ∃ l, Wide k l ∧ Rel W (fun _ b => b < W.heap.size ∧ True) (.si false k l) v := by
  rcases open_ints ht he hc h with ⟨hcs, hx⟩ | ⟨a, len, cap, zs, hcs, _, hl, hm, hz, hx, hcell, hw⟩
  · simp at hcs
    subst hcs
    refine ⟨[], by simp [Wide], ?_⟩
    simp only [Rel]
    exact ⟨none, 0, rfl, by simp, by simp [maxLen], by simp [lim], fun h => by simp at h⟩
  · simp at hcs
    subst hcs
    simp only [if_true] at hz
    have hlen : (zs.take len).length = len := by rw [List.length_take]; omega
    refine ⟨zs.take len, fun n hn => hw n (List.mem_of_mem_take hn), ?_⟩
    have hwt : cap * P.bytesOf e ≤ reachBytes := by
      refine hb _ ?_
      rw [hx]
      simp only [DataW.weights, ht, lits, List.length_map, List.length_take, List.length_drop, List.mem_cons]
      refine .inl ?_
      congr 1
      omega
    have hcap : cap ≤ reachBytes := Nat.le_trans (Nat.le_mul_of_pos_right _ hB) hwt
    have hrb : reachBytes = 140737488351232 := rfl
    simp only [Rel]
    refine ⟨some a, cap, by rw [hlen], by omega, hm, by simp only [lim]; omega, fun h0 => ?_⟩
    have hz0 : 0 < zs.length := by omega
    have h00 := hcell 0 hz0
    obtain ⟨b, o, s⟩ := a
    have hs : s = none := by
      cases s with
      | none => rfl
      | some q =>
        exfalso
        simp only [Addr.add, if_true, World.cell?] at h00
        split at h00 <;> simp at h00
    subst hs
    refine ⟨b, o, rfl, ⟨block_lt_of_cell (a := ⟨b, o, none⟩) (by simpa [Addr.add] using h00), trivial⟩, fun j u hj => ?_⟩
    have hj1 : j < (zs.take len).length := (List.getElem?_eq_some_iff.1 hj).1
    have hj2 : zs[j]? = some u := by rwa [List.getElem?_take_of_lt (by omega)] at hj
    have := hcell j (by omega)
    rw [Addr.add_lit] at this
    rw [this]
    simp [List.getD, hj2]
theorem wide_wf {l : List Int} (h : Wide .u32 l) : wf l := by
  intro x hx
  have := h x hx
  simp only [Lit.wf, Bool.and_eq_true, decide_eq_true_eq] at this
  have e1 : IntKind.min .u32 = 0 := rfl
  have e2 : IntKind.max .u32 = 4294967295 := rfl
  rw [e1, e2] at this
  omega
/-- An integer of the suite, as an argument: any sign, any limbs. -/
theorem arg_iv {v : Value} {d : DataW H} {p : List MemPlace} {ts : List TypeId} {ds : List (DataW H)} {j : Nat} (hsz : (DataW.weightsEach Try.prog ts ds).all (· ≤ reachBytes) = true) (ht : ts[j]? = some 24) (hd : ds[j]? = some d)
    (hval : Value.okWide Try.prog W .any base 24 v) (h : DataW.Trod enc Try.prog W 0 (fun _ => true) true 24 v d p) : ∃ q l, wf l ∧ Rel W (fun _ b => b < W.heap.size ∧ True) (AV q l) v := by
  obtain ⟨v0, v1, y0, y1, n, rfl, rfl, rfl, h0, h1⟩ := open_agg2 Try.underlying24 (by kernel_rfl) (by kernel_rfl) hval h
  obtain ⟨b, hb0, rfl⟩ := DataW.trod_bool Try.underlying4 h0
  have hall : ∀ m ∈ y1.1.weights Try.prog 22, m ≤ reachBytes := fun m hm => by
    have := List.all_eq_true.1 hsz m (DataW.weights_mem_each ht hd m (by simp [DataW.weights, DataW.weightsEach, Try.underlying24, hm]))
    simpa using this
  obtain ⟨l, hl, hr⟩ := ints_rel Try.underlying22 Try.underlying57 (by kernel_rfl) (by decide +kernel) h1 hall
  simp at hb0
  subst hb0
  refine ⟨b, l, wide_wf hl, ?_⟩
  simp only [Rel, Rels] at hr ⊢
  exact ⟨[.bool b, v1], rfl, _, _, rfl, rfl, _, _, rfl, hr, rfl⟩
theorem min_lo (k : IntKind) : k.min = loK k ∧ k.max = hiK k := by cases k <;> exact ⟨rfl, rfl⟩
theorem arg_num {P : Program} {t : TypeId} {k : IntKind} {v : Value} {d : DataW H} {p : List MemPlace} (hu : P.underlying t = some (.int k)) (hval : Value.okWide P W .any base t v) (h : DataW.Trod enc P W 0 (fun _ => true) true t v d p) :
    ∃ n, (loK k ≤ n ∧ n ≤ hiK k) ∧ Rel W (fun _ b => b < W.heap.size ∧ True) (.v (.int k n)) v := by
  obtain ⟨n, rfl, _, _, hw⟩ := open_int hu hval h
  simp only [Lit.wf, Bool.and_eq_true, decide_eq_true_eq] at hw
  rw [(min_lo k).1, (min_lo k).2] at hw
  exact ⟨n, hw, by simp only [Rel]⟩
theorem arg_str {v : Value} {d : DataW H} {p : List MemPlace} (hval : Value.okWide Try.prog W .any base 9 v) (h : DataW.Trod enc Try.prog W 0 (fun _ => true) true 9 v d p) :
    ∃ s, Rel W (fun _ b => b < W.heap.size ∧ True) (.v (.string s)) v := by
  obtain ⟨s, rfl, _⟩ := Go.ChangeMaps.open_string Try.underlying9 hval h
  exact ⟨s, by simp only [Rel]⟩
theorem arg_ints {v : Value} {d : DataW H} {p : List MemPlace} {ts : List TypeId} {ds : List (DataW H)} {j : Nat} (hsz : (DataW.weightsEach Try.prog ts ds).all (· ≤ reachBytes) = true) (ht : ts[j]? = some 42) (hd : ds[j]? = some d)
    (hval : Value.okWide Try.prog W .any base 42 v) (h : DataW.Trod enc Try.prog W 0 (fun _ => true) true 42 v d p) : ∃ l, Wide .i64 l ∧ Rel W (fun _ b => b < W.heap.size ∧ True) (.si false .i64 l) v := by
  obtain ⟨fuel, hf⟩ := h
  obtain ⟨a0, len0, cap0, rfl⟩ := okWide_slice Try.underlying42 hval
  have hall : ∀ m ∈ d.weights Try.prog 42, m ≤ reachBytes := fun m hm => by
    have := List.all_eq_true.1 hsz m (DataW.weights_mem_each ht hd m hm)
    simpa using this
  exact ints_rel Try.underlying42 Try.underlying3 (by kernel_rfl) (by decide +kernel) (by simpa [Value.cells] using hf) hall
end
end Go.Av
