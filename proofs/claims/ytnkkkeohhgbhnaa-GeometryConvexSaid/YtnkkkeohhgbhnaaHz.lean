/- Contracts behind a law: no conditions beyond those in each statement. -/
import Derived.Test.YtnkkkeohhgbhnaaHs
set_option maxHeartbeats 8000000
set_option exponentiation.threshold 100000
set_option maxRecDepth 100000
set_option linter.unusedVariables false
set_option linter.unusedSimpArgs false
namespace Go.Av
open Go Go.Proofs
/-! The hull turns one way and holds all points. -/
theorem adj_at {R : Pt → Pt → Prop} : ∀ {L : List Pt} {k : Nat}, Adj R L → k + 1 < L.length → R (at_ L (k : Int)) (at_ L ((k + 1 : Nat) : Int))
  | p :: q :: r, 0, h, _ => h.1
  | p :: q :: r, k + 1, h, hk => by
    rw [at_cons, at_cons]
    exact adj_at h.2 (by simpa using hk)
theorem at_snoc_lt {g : List Pt} {a : Pt} {k : Nat} (h : k < g.length) : at_ (g ++ [a]) (k : Int) = at_ g (k : Int) := by
  rw [at_get h, at_get (by rw [List.length_append]; omega)]
  exact List.getElem_append_left h
theorem at_snoc_end {g : List Pt} {a : Pt} : at_ (g ++ [a]) (g.length : Int) = a := by
  rw [at_get (by rw [List.length_append]; simp)]
  simp
theorem nx_cyc {l g : List Pt} {a : Pt} {t : List Pt} (h : IsH l g a t) (ht : t ≠ []) {k : Nat} (hk : k < g.length) : NX l (at_ g (k : Int)) (at_ g (((k : Int) + 1) % (g.length : Int))) := by
  have hp := h.path ht
  have eg : a :: (t ++ [a]) = g ++ [a] := by rw [h.eq]; rfl
  rw [eg] at hp
  have := adj_at hp (k := k) (by rw [List.length_append, List.length_singleton]; omega)
  rw [at_snoc_lt hk] at this
  by_cases h1 : k + 1 < g.length
  · rw [at_snoc_lt h1] at this
    rw [show ((k : Int) + 1) % (g.length : Int) = ((k + 1 : Nat) : Int) by rw [Int.emod_eq_of_lt (by omega) (by omega)]; omega]
    exact this
  · have e : k + 1 = g.length := by omega
    rw [e, at_snoc_end] at this
    have e2 : ((k : Int) + 1) % (g.length : Int) = ((0 : Nat) : Int) := by
      rw [show (k : Int) + 1 = (g.length : Int) by omega, Int.emod_self]; rfl
    rw [e2]
    have e3 : at_ g ((0 : Nat) : Int) = a := by rw [h.eq]; rfl
    rw [e3]
    exact this
theorem nx_turn {l : List Pt} {p q r : Pt} (h1 : NX l p q) (h2 : NX l q r) (hp : p ∈ l) (hr : r ∈ l) (sp : sm p) (sr : sm r) (hne : p ≠ r) : 0 < crossP p q r := by
  have g1 := h1.2.2 r hr
  by_cases e : crossP p q r = 0
  · exfalso
    have b1 := g1.2 e
    have b2 := (h2.2.2 p hp).2 (by rw [← cr_rot]; exact e)
    have n1 := h1.2.1
    have n2 := h2.2.1
    have : lf k0 p = lf k0 r := by omega
    exact hne (lf_inj sp sr this)
  · have := g1.1; omega
theorem nodup_at {g : List Pt} (h : g.Nodup) {i j : Nat} (hi : i < g.length) (hj : j < g.length) (hij : i ≠ j) : at_ g (i : Int) ≠ at_ g (j : Int) := by
  rw [at_get hi, at_get hj]
  intro e
  rcases Nat.lt_or_gt_of_ne hij with h1 | h1
  · exact List.pairwise_iff_getElem.1 h i j hi hj h1 e
  · exact List.pairwise_iff_getElem.1 h j i hj hi h1 e.symm
theorem at_mem {g : List Pt} {n : Int} (h0 : 0 ≤ n) (h1 : n < g.length) : at_ g n ∈ g := by
  obtain ⟨k, rfl⟩ : ∃ k : Nat, n = (k : Int) := ⟨n.toNat, by omega⟩
  rw [at_get (by omega)]
  exact List.getElem_mem _
/-- The corners of the hull of l. -/
theorem hull_turn {l : List Pt} (h0 : l ≠ []) (hs : l.all smB = true) (h3 : 2 < (hullF l).length) {k : Nat} (hk : k < (hullF l).length) :
    0 < crossP (at_ (hullF l) (k : Int)) (at_ (hullF l) (((k : Int) + 1) % ((hullF l).length : Int))) (at_ (hullF l) (((k : Int) + 2) % ((hullF l).length : Int))) := by
  obtain ⟨a, t, h⟩ := hull_is h0 hs
  generalize hullF l = g at *
  have ht : t ≠ [] := fun e => by have := h.eq; rw [e] at this; rw [this] at h3; simp at h3
  have n1 := nx_cyc h ht hk
  have hm0 : 0 ≤ ((k : Int) + 1) % (g.length : Int) := Int.emod_nonneg _ (by omega)
  have hm1 : ((k : Int) + 1) % (g.length : Int) < g.length := Int.emod_lt_of_pos _ (by omega)
  obtain ⟨j, hj⟩ : ∃ j : Nat, ((k : Int) + 1) % (g.length : Int) = (j : Int) := ⟨(((k : Int) + 1) % (g.length : Int)).toNat, by omega⟩
  have n2 := nx_cyc h ht (k := j) (by omega)
  have e2 : ((k : Int) + 2) % (g.length : Int) = ((j : Int) + 1) % (g.length : Int) := by
    rw [← hj, Int.emod_add_emod]
    congr 1
  rw [← hj] at n2
  rw [← hj] at e2
  rw [← e2] at n2
  have hq0 : 0 ≤ ((k : Int) + 2) % (g.length : Int) := Int.emod_nonneg _ (by omega)
  have hq1 : ((k : Int) + 2) % (g.length : Int) < g.length := Int.emod_lt_of_pos _ (by omega)
  obtain ⟨i, hi⟩ : ∃ i : Nat, ((k : Int) + 2) % (g.length : Int) = (i : Int) := ⟨(((k : Int) + 2) % (g.length : Int)).toNat, by omega⟩
  have hki : k ≠ i := by
    intro e
    by_cases c : k + 2 < g.length
    · rw [Int.emod_eq_of_lt (by omega) (by omega)] at hi; omega
    · have : ((k : Int) + 2) % (g.length : Int) = (k : Int) + 2 - g.length := by
        rw [← Int.sub_emod_right, Int.emod_eq_of_lt (by omega) (by omega)]
      omega
  have m1 : at_ g (k : Int) ∈ l := h.sub _ (at_mem (by omega) (by omega))
  have m2 : at_ g (((k : Int) + 2) % (g.length : Int)) ∈ l := h.sub _ (at_mem hq0 hq1)
  refine nx_turn n1 n2 m1 m2 (sm_mem hs m1) (sm_mem hs m2) ?_
  rw [hi]
  exact nodup_at h.nodup hk (by omega) hki
theorem hull_in {l : List Pt} (h0 : l ≠ []) (hs : l.all smB = true) (h3 : ¬ (hullF l).length < 3) {p : Pt} (hp : p ∈ l) : allE (hullF l) p = true := by
  obtain ⟨a, t, h⟩ := hull_is h0 hs
  generalize hullF l = g at *
  have ht : t ≠ [] := fun e => by have := h.eq; rw [e] at this; rw [this] at h3; simp at h3
  exact decide_eq_true (fun k hk => ((nx_cyc h ht hk).2.2 p hp).1)
theorem hull_cvx {l : List Pt} (h0 : l ≠ []) (hs : l.all smB = true) : cvx (hullF l) = true := by
  refine decide_eq_true ?_
  have hi := hull_idem h0 hs
  have hh := hull_head h0 hs
  unfold hIx
  rw [hi]
  generalize hullF l = g at *
  cases g with
  | nil => simp at hh
  | cons b g =>
    have : ix (b :: g) (at_ (b :: g) 0) = 0 := by
      have : at_ (b :: g) 0 = b := rfl
      rw [this]
      unfold ix
      rw [if_pos rfl]
    rw [this]
    unfold rotP
    simp
theorem hull_chk {l : List Pt} (h0 : l ≠ []) (hs : l.all smB = true) (hn : l.length ≤ 4096) : chkR (hullF l) = 0 := by
  have := hull_len h0 hs
  unfold chkR witR
  rw [if_neg (by omega), if_pos (hull_all h0 hs)]
theorem hull_ins {l : List Pt} (h0 : l ≠ []) (hs : l.all smB = true) (hn : l.length ≤ 4096) (h3 : ¬ (hullF l).length < 3) {p : Pt} (hp : p ∈ l) : insR (hullF l) p = (true, 0) := by
  unfold insR
  rw [hull_chk h0 hs hn, if_neg (by decide), if_neg (not_not_intro (sm_mem hs hp)), if_neg h3, hull_cvx h0 hs, if_neg (by decide), hull_in h0 hs h3 hp]
/-- The points in another order. -/
def othI (l : List Pt) (kk : Int) (i : Nat) : Int := (kk + (l.length : Int) - (i : Int)) % (l.length : Int)
def othS (l : List Pt) (kk : Int) : Nat → List Pt
  | 0 => []
  | i + 1 => othS l kk i ++ [at_ l (othI l kk i)]
theorem othS_len (l : List Pt) (kk : Int) : ∀ i, (othS l kk i).length = i
  | 0 => rfl
  | i + 1 => by unfold othS; rw [List.length_append, othS_len l kk i]; rfl
theorem othI_bd {l : List Pt} (h0 : 0 < l.length) (kk : Int) (i : Nat) : 0 ≤ othI l kk i ∧ othI l kk i < l.length := ⟨Int.emod_nonneg _ (by omega), Int.emod_lt_of_pos _ (by omega)⟩
theorem othS_sub {l : List Pt} (h0 : 0 < l.length) (kk : Int) : ∀ i, ∀ x ∈ othS l kk i, x ∈ l
  | 0, x, hx => by simp [othS] at hx
  | i + 1, x, hx => by
    unfold othS at hx
    rcases List.mem_append.1 hx with hx | hx
    · exact othS_sub h0 kk i x hx
    · have : x = at_ l (othI l kk i) := by simpa using hx
      rw [this]
      exact at_mem (othI_bd h0 kk i).1 (othI_bd h0 kk i).2
theorem othS_has (l : List Pt) (kk : Int) : ∀ {i n : Nat}, i < n → at_ l (othI l kk i) ∈ othS l kk n
  | i, n + 1, h => by
    unfold othS
    by_cases e : i = n
    · subst e; simp
    · exact List.mem_append_left _ (othS_has l kk (by omega))
theorem othS_all {l : List Pt} (h0 : 0 < l.length) {kk : Int} (hk0 : 0 ≤ kk) (hk1 : kk < l.length) : ∀ x ∈ l, x ∈ othS l kk l.length := by
  intro x hx
  obtain ⟨j, hj, rfl⟩ := List.getElem_of_mem hx
  -- i with (kk + n - i) % n = j
  have key : ∃ i : Nat, i < l.length ∧ othI l kk i = (j : Int) := by
    by_cases c : (j : Int) ≤ kk
    · refine ⟨(kk - j).toNat, by omega, ?_⟩
      unfold othI
      rw [show kk + (l.length : Int) - ((kk - j).toNat : Int) = (j : Int) + (l.length : Int) by omega, Int.add_emod_right, Int.emod_eq_of_lt (by omega) (by omega)]
    · refine ⟨(kk + l.length - j).toNat, by omega, ?_⟩
      unfold othI
      rw [show kk + (l.length : Int) - ((kk + l.length - j).toNat : Int) = (j : Int) by omega, Int.emod_eq_of_lt (by omega) (by omega)]
  obtain ⟨i, hi, e⟩ := key
  have := othS_has l kk hi
  rw [e, at_get hj] at this
  exact this
theorem oth_hull {l : List Pt} (h0 : l ≠ []) (hs : l.all smB = true) {kk : Int} (hk0 : 0 ≤ kk) (hk1 : kk < l.length) (hn : l.length ≤ 4096) : hlR (othS l kk l.length) = (hullF l, 0) := by
  have hl : 0 < l.length := by cases l with
    | nil => exact absurd rfl h0
    | cons a l => simp
  have hall : (othS l kk l.length).all smB = true := List.all_eq_true.2 (fun x hx => List.all_eq_true.1 hs x (othS_sub hl kk _ x hx))
  have hlen := othS_len l kk l.length
  unfold hlR
  have hc : chkR (othS l kk l.length) = 0 := by unfold chkR witR; rw [if_neg (by omega), if_pos hall]
  rw [hc, if_neg (by decide), if_neg (by omega), hull_uni h0 hs hall (othS_sub hl kk _) (fun x hx => othS_all hl hk0 hk1 x (hull_sub h0 hs x hx))]
theorem hull_hull {l : List Pt} (h0 : l ≠ []) (hs : l.all smB = true) (hn : l.length ≤ 4096) : hlR (hullF l) = (hullF l, 0) := by
  have := (hull_head h0 hs).1
  unfold hlR
  rw [hull_chk h0 hs hn, if_neg (by decide), if_neg (by omega), hull_idem h0 hs]
end Go.Av
