/- Contracts behind a law: no conditions beyond those in each statement. -/
import Derived.Test.YtmaobhmoipegeaaGreatJ4
import Derived.Test.YtmaobhmoipegeaaGreatJ5
set_option exponentiation.threshold 100000
set_option linter.unusedVariables false
set_option linter.unusedSimpArgs false
/-! What is written is read back: plain facts. -/
namespace Go.Av
open Go Go.Proofs
def hp (b : Nat) (l : List Int) : Nat → Nat
  | 0 => 0
  | k + 1 => hp b l k * b + (rd l k).toNat
def okR (n : Int) (l : List Int) : Prop := ∀ k : Nat, k < l.length → 0 ≤ rd l k ∧ rd l k < n
def cst (L : List Nat) : List Int := L.map fun (d : Nat) => (d : Int)
theorem cst_len (L : List Nat) : (cst L).length = L.length := by simp [cst]
theorem rd_cst {L : List Nat} {k : Nat} (h : k < L.length) : rd (cst L) k = ((L[k] : Nat) : Int) := by
  unfold rd cst
  rw [Int.toNat_natCast, List.getD]
  simp [h]
theorem hp_cst (b : Nat) (L : List Nat) : ∀ k : Nat, k ≤ L.length → hp b (cst L) k = hor b (L.take k)
  | 0, _ => by simp [hp, hor]
  | k + 1, h => by
    have h1 : k < L.length := by omega
    simp only [hp]
    rw [hp_cst b L k (by omega), rd_cst h1, List.take_succ_eq_append_getElem h1, hor_snoc, Int.toNat_natCast]
theorem dI_rev (b m : Nat) : (dI b m).reverse = cst (ds b m).reverse := by
  unfold dI cst
  rw [List.map_reverse]
theorem hp_dI {b : Nat} (hb : 2 ≤ b) (m : Nat) : hp b (dI b m).reverse (dI b m).reverse.length = m := by
  rw [dI_rev, hp_cst _ _ _ (by rw [cst_len]; exact Nat.le_refl _), cst_len, List.take_length, hor_ds' hb]
theorem ok_dI {b : Nat} (hb : 2 ≤ b) (m : Nat) : okR b (dI b m).reverse := by
  intro k hk
  have h1 := rd_mem hk
  rw [List.mem_reverse] at h1
  exact dI_bd hb h1
theorem top_dI {b m : Nat} (hb : 2 ≤ b) (hm : 0 < m) : rd (dI b m).reverse 0 ≠ 0 := by
  have h1 := ds_top' hb hm
  have h2 := ds_ne hb hm
  rw [dI_rev]
  have h3 : 0 < (ds b m).reverse.length := by rw [List.length_reverse]; exact h2
  have h4 := rd_cst (L := (ds b m).reverse) (k := 0) h3
  change rd (cst (ds b m).reverse) 0 = _ at h4
  rw [h4]
  intro h5
  apply h1
  rw [List.getElem_reverse] at h5
  rw [List.getLast?_eq_getElem?]
  have h6 : (ds b m)[(ds b m).length - 1 - 0]'(by omega) = 0 := by omega
  rw [List.getElem?_eq_getElem (by omega)]
  simpa using h6
/-! Strings -/
theorem bt_str {L : List Int} {k : Nat} (h : k < L.length) (hb : 0 ≤ rd L k ∧ rd L k ≤ 255) : bt (strOfNums L) k = rd L k := by
  have h1 : k < (strOfNums L).size := by rw [strOfNums_size]; exact h
  unfold bt
  rw [dif_pos (by simpa using h1)]
  have h2 : rd L k = L[k] := by unfold rd; rw [Int.toNat_natCast, List.getD, List.getElem?_eq_getElem h]; rfl
  rw [h2] at hb ⊢
  have h3 : (strOfNums L)[((k : Nat) : Int).toNat]'(by simpa using h1) = UInt8.ofNat (L[k]).toNat := by
    simp [strOfNums, ByteArray.getElem_eq_getElem_data]
  rw [h3]
  have h4 : (L[k]).toNat < 256 := by omega
  have h5 : (UInt8.ofNat (L[k]).toNat).toNat = (L[k]).toNat := by simp [Nat.mod_eq_of_lt h4]
  rw [h5]
  omega
theorem str_extract (x : Int) (L : List Int) : (strOfNums (x :: L)).extract (1 : Int).toNat (strOfNums (x :: L)).size = strOfNums L := by
  apply ByteArray.ext
  rw [ByteArray.data_extract]
  apply Array.ext'
  simp [strOfNums, ByteArray.size, Array.toList_extract, List.extract_eq_take_drop]
  exact List.take_of_length_le (by simp)
def dgT (m : Nat) : List Int := (dI 10 m).reverse.map fun d => 48 + d
theorem rd_map {L : List Int} {k : Nat} (h : k < L.length) : rd (L.map fun d => 48 + d) k = 48 + rd L k := by
  unfold rd
  rw [Int.toNat_natCast]
  simp [List.getD, h]
theorem dgT_bt {m k : Nat} (h : k < (dgT m).length) : bt (strOfNums (dgT m)) k = 48 + rd (dI 10 m).reverse k ∧ 0 ≤ rd (dI 10 m).reverse k ∧ rd (dI 10 m).reverse k < 10 := by
  have hl : k < (dI 10 m).reverse.length := by simpa [dgT] using h
  have h1 := ok_dI (b := 10) (by decide) m k hl
  have h2 := rd_map hl
  have h3 := bt_str h (by unfold dgT; rw [h2]; omega)
  refine ⟨?_, h1⟩
  rw [h3]
  exact h2
theorem dgT_ok (m : Nat) : ∀ k : Nat, k ≤ (dgT m).length → okD (strOfNums (dgT m)) k = true ∧ nm (strOfNums (dgT m)) k = hp 10 (dI 10 m).reverse k
  | 0, _ => ⟨rfl, rfl⟩
  | k + 1, h => by
    obtain ⟨h1, h2⟩ := dgT_ok m k (by omega)
    obtain ⟨h3, h4⟩ := dgT_bt (m := m) (k := k) (by omega)
    constructor
    · simp only [okD, h1, Bool.true_and, Bool.and_eq_true, decide_eq_true_eq]
      omega
    · simp only [nm, hp, h2]
      congr 1
      omega
theorem fmt_rev (p : Bool) (m : Nat) : (fmtL p m).reverse = (if p then [45] else []) ++ dgT m := by
  unfold fmtL dgT
  rw [List.reverse_append, List.map_reverse]
  cases p <;> simp
theorem fmt_size {p : Bool} {m : Nat} : 0 < (fmt p m).size := by
  unfold fmt
  split
  · decide
  · rename_i h
    rw [strOfNums_size, fmt_rev, List.length_append]
    have : 0 < (dI 10 m).length := by rw [dI_pos (by decide) (Nat.pos_of_ne_zero h)]; simp
    simp [dgT]
    omega
theorem dgT_len (m : Nat) : (dgT m).length = (dI 10 m).length := by simp [dgT]
theorem prT_dg {m : Nat} (neg : Bool) (hm : 0 < m) (hs : (dgT m).length ≤ 4096) : prT neg (strOfNums (dgT m)) = some (some (neg, m)) := by
  obtain ⟨h1, h2⟩ := dgT_ok m (dgT m).length (Nat.le_refl _)
  have hl : 0 < (dI 10 m).length := by rw [dI_pos (by decide) hm]; simp
  obtain ⟨h3, h4⟩ := dgT_bt (m := m) (k := 0) (by rw [dgT_len]; exact hl)
  have h5 := top_dI (b := 10) (by decide) hm
  unfold prT
  rw [strOfNums_size, if_neg (by omega), if_neg, if_pos h1, h2]
  · rw [dgT_len, ← List.length_reverse, hp_dI (by decide)]
  · rintro (h | ⟨h, _⟩)
    · rw [dgT_len] at h; omega
    · change bt _ 0 = _ at h3
      rw [h3] at h
      exact h5 (by change rd _ 0 = 0; have : ((0 : Nat) : Int) = 0 := rfl; rw [this] at h; omega)
/-- Parse reads what Format writes. -/
theorem read_back {p : Bool} {m : Nat} (hp : p = true → 0 < m) (hs : (fmt p m).size ≤ 4096) : prT (negS (fmt p m)) (tS (fmt p m)) = some (some (p, m)) := by
  by_cases hm : m = 0
  · subst hm
    have : p = false := by
      cases p with
      | false => rfl
      | true => exact absurd (hp rfl) (by omega)
    subst this
    decide
  · have hm0 := Nat.pos_of_ne_zero hm
    have e : fmt p m = strOfNums ((if p then [45] else []) ++ dgT m) := by unfold fmt; rw [if_neg hm, fmt_rev]
    have hl : 0 < (dI 10 m).length := by rw [dI_pos (by decide) hm0]; simp
    cases p with
    | false =>
      simp only [Bool.false_eq_true, if_false, List.nil_append] at e
      rw [e] at hs ⊢
      rw [strOfNums_size] at hs
      obtain ⟨h3, h4⟩ := dgT_bt (m := m) (k := 0) (by rw [dgT_len]; exact hl)
      have hn : negS (strOfNums (dgT m)) = false := by
        unfold negS
        have : ¬ bt (strOfNums (dgT m)) 0 = 45 := by
          intro h
          change bt _ 0 = _ at h3
          have h0 : ((0 : Nat) : Int) = 0 := rfl
          rw [h0] at h3 h4
          omega
        rw [decide_eq_false this, Bool.and_false]
      have ht : tS (strOfNums (dgT m)) = strOfNums (dgT m) := by unfold tS; rw [hn]; simp
      rw [hn, ht]
      exact prT_dg false hm0 hs
    | true =>
      simp only [if_true, List.cons_append, List.nil_append] at e
      rw [e] at hs ⊢
      rw [strOfNums_size, List.length_cons] at hs
      have hb : bt (strOfNums (45 :: dgT m)) 0 = 45 := bt_str (L := 45 :: dgT m) (k := 0) (by simp) (by simp [rd])
      have hn : negS (strOfNums (45 :: dgT m)) = true := by
        unfold negS
        rw [decide_eq_true hb, strOfNums_size, decide_eq_true (by simp)]
        rfl
      have ht : tS (strOfNums (45 :: dgT m)) = strOfNums (dgT m) := by
        unfold tS
        rw [hn, if_pos rfl]
        exact str_extract 45 (dgT m)
      rw [hn, ht]
      exact prT_dg true hm0 (by omega)
end Go.Av
