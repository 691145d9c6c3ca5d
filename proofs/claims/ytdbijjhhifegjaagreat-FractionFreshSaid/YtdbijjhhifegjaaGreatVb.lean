/- Contracts behind a law: no conditions beyond those in each statement. -/
import Derived.Test.YtdbijjhhifegjaaGreatVa
import Derived.Test.YtdbijjhhifegjaaGreatJ1
import Derived.WalkKit
import Derived.OwnWalk
import Derived.LoopTactic
import Derived.RangeFuncRecord
set_option maxHeartbeats 8000000
set_option maxRecDepth 100000
set_option linter.unusedVariables false
set_option linter.unusedSimpArgs false
namespace Go.Av
open Go Go.Proofs Go.RowKit
/-- What 'changed' does to memory: some whole numbers of 32 bits become other ones, beyond that only new blocks come up. -/
structure Wrote (B : Option Nat) (w w' : World) : Prop where
  os : w'.os = w.os
  tape : w'.tape = w.tape
  output : w'.output = w.output
  size : w.heap.size ≤ w'.heap.size
  same : ∀ k, k < w.heap.size → B ≠ some k → w'.heap[k]? = w.heap[k]?
  soft : ∀ k, soft w k → soft w' k
  cell : ∀ k i, k < w.heap.size → w'.cell? ⟨k, i, none⟩ = w.cell? ⟨k, i, none⟩ ∨ (∃ m, w.cell? ⟨k, i, none⟩ = some (.int .u32 m)) ∧ w'.cell? ⟨k, i, none⟩ = some (.int .u32 77)
theorem soft_setCell {w : World} {b i : Nat} {u : Value} {k : Nat} (h : soft w k) : soft (w.setCell ⟨b, i, none⟩ u) k := by
  obtain ⟨c, t, e⟩ := h
  by_cases hk : k = b
  · subst hk
    simp only [soft, World.setCell, Array.getElem?_modify, if_true, e, Option.map_some]
    exact ⟨_, _, rfl⟩
  · exact ⟨c, t, (Below.heap_setCell w ⟨b, i, none⟩ u k hk).trans e⟩
theorem Wrote.alloc {B : Option Nat} (w : World) (o : Obj) : Wrote B w (w.alloc o) := by
  refine ⟨rfl, rfl, rfl, by simp, fun k hk _ => Below.heap_alloc _ _ _ hk, fun k hs => ?_, fun k i hk => .inl (World.cell?_of_block (a := ⟨k, i, none⟩) (Below.heap_alloc _ _ _ hk))⟩
  obtain ⟨c', t', e⟩ := hs
  exact ⟨c', t', (Below.heap_alloc _ _ _ (Array.getElem?_eq_some_iff.1 e).1).trans e⟩
theorem Wrote.step {w W : World} {b i : Nat} {m : Int} (h : Wrote (some b) w W) (hb : b < w.heap.size) (hc : W.cell? ⟨b, i, none⟩ = some (.int .u32 m)) : Wrote (some b) w (W.setCell ⟨b, i, none⟩ (.int .u32 77)) := by
  have hbl := (Below.refl 0 W).setCell (p := ⟨b, i, none⟩) (Nat.zero_le _) (.int .u32 77)
  refine ⟨hbl.os.trans h.os, hbl.tape.trans h.tape, hbl.output.trans h.output, Nat.le_trans h.size hbl.size, fun k hk hne => ?_, fun k hs => soft_setCell (h.soft k hs), fun k j hk => ?_⟩
  · exact (Below.heap_setCell W _ _ k (fun e => hne (by rw [e]))).trans (h.same k hk hne)
  · by_cases e : (⟨k, j, none⟩ : Addr) = ⟨b, i, none⟩
    · simp only [Addr.mk.injEq, and_true] at e
      obtain ⟨rfl, rfl⟩ := e
      right
      refine ⟨?_, World.cell?_setCell_same _ _ _ hc⟩
      rcases h.cell k j hk with h1 | h1
      · exact ⟨m, h1.symm.trans hc⟩
      · exact h1.1
    · rw [World.cell?_setCell_other _ _ _ _ (fun e' => e e'.symm)]
      exact h.cell k j hk
theorem changed_raw (p : Bool) (A : Option Addr) (n c : Nat) (B : Option Nat) (w : World) (hn : n < lim) (hB : 0 < n → B = A.map (·.block)) (h : 0 < n → ∃ b o, A = some ⟨b, o, none⟩ ∧ soft w b ∧ ∀ j, j < n → ∃ m, w.cell? ⟨b, o + j, none⟩ = some (.int .u32 m)) :
    Calls Tryz.prog 17 #[.agg #[.bool p, .slice A n c]] w fun e w' => (∃ v, e = .returned v) ∧ Wrote B w w' := by
  have hn : n < 281474976710656 := hn
  go_enter Tryz.func17, Tryz.ntmps17
  go_wp2
  go_loopw [2] (fun i W => ∃ k : Nat, k ≤ n ∧ i = .int .i64 k ∧ W.heap[w.heap.size]? = some (.cells #[.bool p, .slice A n c] 24 (0, 0)) ∧ Wrote B w W) (fun i _ => n - (intOf i).toNat)
  case atStart =>
    refine ⟨0, Nat.zero_le _, rfl, (World.alloc_heap_new w _), Wrote.alloc w _⟩
  case round =>
    obtain ⟨k, hk, rfl, hbox, hW⟩ := hrel
    have hc0 := cell_of_row wr w.heap.size 0 _ _ _ hbox
    have hc1 := cell_of_row wr w.heap.size 1 _ _ _ hbox
    simp at hc0 hc1
    go_wp2
    · rename_i hkn _ _ _ _
      obtain ⟨b, o, rfl, hsf, hcells⟩ := h (by omega)
      obtain rfl : B = some b := hB (by omega)
      have hbs : b < w.heap.size := by
        obtain ⟨c', t', e⟩ := hsf
        exact (Array.getElem?_eq_some_iff.1 e).1
      obtain ⟨m, hm⟩ : ∃ m, wr.cell? ⟨b, o + k, none⟩ = some (.int .u32 m) := by
        rcases hW.cell b (o + k) hbs with h1 | h1
        · obtain ⟨m, hm⟩ := hcells k (by omega)
          exact ⟨m, h1.trans hm⟩
        · exact ⟨77, h1.2⟩
      have hfz : wr.frozen? ⟨b, o + k, none⟩ = false := by
        obtain ⟨c', t', e⟩ := hW.soft b hsf
        simp [World.frozen?, e]
      have hst := hW.step hbs hm
      have hbox2 : (wr.setCell ⟨b, o + k, none⟩ (.int .u32 77)).heap[w.heap.size]? = some (.cells #[.bool p, .slice (some ⟨b, o, none⟩) n c] 24 (0, 0)) := (Below.heap_setCell wr _ _ _ (by show w.heap.size ≠ b; omega)).trans hbox
      have hidx : (Instr.indexAt 22 (.slice (some ⟨b, o, none⟩) n c) (.int .i64 (k : Int))).run Tryz.prog wr = .ok (.pointer (some ⟨b, o + k, none⟩)) wr := by
        have h3 : Tryz.prog.underlying 22 = some (.slice 65) := Tryz.underlying22
        simp [Instr.indexAt, run_underlying h3, asIntOf, Addr.add_lit]
        intro hh
        omega
      clear h hB
      rw [hidx]
      simp only [Result.andThen_ok, Oper.upon]
      go_at_K
      go_wp2
      refine ⟨⟨k + 1, by omega, by go_num, hbox2, hst⟩, ?_⟩
      simp [intOf]
      first | omega | (go_num; omega)
    · go_end0
      exact ⟨⟨_, rfl⟩, hW⟩
end Go.Av
