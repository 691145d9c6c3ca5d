/- Contracts of functions that the laws on fractions reach, and the plain arithmetic behind them: no conditions beyond those in each statement. -/
import Derived.Test.YtdbijjhhifegjaaGreatProg
import Derived.Test.YtdbijjhhifegjaaGreatJ0
import Derived.KernelRfl
import Derived.Laws.BitsAllLaws
import Derived.Test.YtdbijjhhifegjaaGreatRows
import Derived.WalkKit
import Derived.ProofKit
import Derived.OpenShut
import Derived.ShutString
import Derived.ChangeOld
import Derived.Below
import Derived.SizedLaws
import Derived.Lib.SmallJoins
import Derived.Carry
/-! What the rules ask of this program's types: written by a program out of the translation's table, asked of the kernel. -/
namespace Go.Av
open Go Go.Proofs
instance : TSz Tryz.prog 2 1 := .of (by kernel_rfl)
instance : TOne Tryz.prog 2 := .of (by kernel_rfl)
instance : TZero Tryz.prog 2 [.v (.int .i64 0)] := TZero.of' (zs := [.int .i64 0]) (by kernel_rfl) rfl
instance : TInt Tryz.prog 2 .i64 := .of (by kernel_rfl)
instance : TSz Tryz.prog 3 1 := .of (by kernel_rfl)
instance : TOne Tryz.prog 3 := .of (by kernel_rfl)
instance : TZero Tryz.prog 3 [.v (.int .i64 0)] := TZero.of' (zs := [.int .i64 0]) (by kernel_rfl) rfl
instance : TInt Tryz.prog 3 .i64 := .of (by kernel_rfl)
instance : TSz Tryz.prog 4 1 := .of (by kernel_rfl)
instance : TOne Tryz.prog 4 := .of (by kernel_rfl)
instance : TZero Tryz.prog 4 [.v (.bool false)] := TZero.of' (zs := [.bool false]) (by kernel_rfl) rfl
instance : TBool Tryz.prog 4 := .of (by kernel_rfl)
instance : TSz Tryz.prog 5 1 := .of (by kernel_rfl)
instance : TOne Tryz.prog 5 := .of (by kernel_rfl)
instance : TZero Tryz.prog 5 [.v (.int .u8 0)] := TZero.of' (zs := [.int .u8 0]) (by kernel_rfl) rfl
instance : TInt Tryz.prog 5 .u8 := .of (by kernel_rfl)
instance : TSz Tryz.prog 9 1 := .of (by kernel_rfl)
instance : TOne Tryz.prog 9 := .of (by kernel_rfl)
instance : TZero Tryz.prog 9 [.v (.string ⟨#[]⟩)] := TZero.of' (zs := [.string ⟨#[]⟩]) (by kernel_rfl) rfl
instance : TStr Tryz.prog 9 := .of (by kernel_rfl)
instance : TSz Tryz.prog 12 1 := .of (by kernel_rfl)
instance : TOne Tryz.prog 12 := .of (by kernel_rfl)
instance : TZero Tryz.prog 12 [.v (.int .u64 0)] := TZero.of' (zs := [.int .u64 0]) (by kernel_rfl) rfl
instance : TInt Tryz.prog 12 .u64 := .of (by kernel_rfl)
instance : TSz Tryz.prog 21 1 := .of (by kernel_rfl)
instance : TOne Tryz.prog 21 := .of (by kernel_rfl)
instance : TZero Tryz.prog 21 [.v (.int .i32 0)] := TZero.of' (zs := [.int .i32 0]) (by kernel_rfl) rfl
instance : TInt Tryz.prog 21 .i32 := .of (by kernel_rfl)
instance : TSz Tryz.prog 22 1 := .of (by kernel_rfl)
instance : TOne Tryz.prog 22 := .of (by kernel_rfl)
instance : TZero Tryz.prog 22 [.v (.slice none 0 0)] := TZero.of' (zs := [.slice none 0 0]) (by kernel_rfl) rfl
instance : TSl Tryz.prog 22 65 1 := .of (by kernel_rfl)
instance : TAp Tryz.prog 22 65 1 4 := TAp.of (zs := [.int .u32 0]) (by kernel_rfl) rfl (by decide) (by decide)
instance : TBs Tryz.prog 22 65 1 := TBs.of (zs := [.int .u32 0]) (bytes := 4) (by kernel_rfl) rfl (by decide)
instance : TMk Tryz.prog 22 65 .u32 4 := TMk.of (by kernel_rfl) (by decide)
instance : TSz Tryz.prog 23 2 := .of (by kernel_rfl)
instance : TAgg Tryz.prog 23 2 := .of (by kernel_rfl)
instance : TZero Tryz.prog 23 [.v (.bool false), .v (.slice none 0 0)] := TZero.of' (zs := [.bool false, .slice none 0 0]) (by kernel_rfl) rfl
instance : TFld Tryz.prog 23 0 0 := .of (by kernel_rfl)
instance : TFld Tryz.prog 23 1 1 := .of (by kernel_rfl)
instance : TPl Tryz.prog 23 [.v (.bool false), .v (.slice none 0 0)] [(0, 1), (1, 1)] := TPl.of (zs := [.bool false, .slice none 0 0]) (by kernel_rfl) rfl
instance : TSz Tryz.prog 24 2 := .of (by kernel_rfl)
instance : TAgg Tryz.prog 24 2 := .of (by kernel_rfl)
instance : TZero Tryz.prog 24 [.v (.bool false), .v (.slice none 0 0)] := TZero.of' (zs := [.bool false, .slice none 0 0]) (by kernel_rfl) rfl
instance : TFld Tryz.prog 24 0 0 := .of (by kernel_rfl)
instance : TFld Tryz.prog 24 1 1 := .of (by kernel_rfl)
instance : TPl Tryz.prog 24 [.v (.bool false), .v (.slice none 0 0)] [(0, 1), (1, 1)] := TPl.of (zs := [.bool false, .slice none 0 0]) (by kernel_rfl) rfl
instance : TSz Tryz.prog 25 4 := .of (by kernel_rfl)
instance : TAgg Tryz.prog 25 4 := .of (by kernel_rfl)
instance : TZero Tryz.prog 25 [.v (.bool false), .v (.slice none 0 0), .v (.bool false), .v (.slice none 0 0)] := TZero.of' (zs := [.bool false, .slice none 0 0, .bool false, .slice none 0 0]) (by kernel_rfl) rfl
instance : TFld Tryz.prog 25 0 0 := .of (by kernel_rfl)
instance : TFld Tryz.prog 25 1 2 := .of (by kernel_rfl)
instance : TPl Tryz.prog 25 [.v (.bool false), .v (.slice none 0 0), .v (.bool false), .v (.slice none 0 0)] [(0, 2), (2, 2)] := TPl.of (zs := [.bool false, .slice none 0 0, .bool false, .slice none 0 0]) (by kernel_rfl) rfl
instance : TSz Tryz.prog 26 4 := .of (by kernel_rfl)
instance : TAgg Tryz.prog 26 4 := .of (by kernel_rfl)
instance : TZero Tryz.prog 26 [.v (.bool false), .v (.slice none 0 0), .v (.bool false), .v (.slice none 0 0)] := TZero.of' (zs := [.bool false, .slice none 0 0, .bool false, .slice none 0 0]) (by kernel_rfl) rfl
instance : TFld Tryz.prog 26 0 0 := .of (by kernel_rfl)
instance : TFld Tryz.prog 26 1 2 := .of (by kernel_rfl)
instance : TPl Tryz.prog 26 [.v (.bool false), .v (.slice none 0 0), .v (.bool false), .v (.slice none 0 0)] [(0, 2), (2, 2)] := TPl.of (zs := [.bool false, .slice none 0 0, .bool false, .slice none 0 0]) (by kernel_rfl) rfl
instance : TSz Tryz.prog 31 1 := .of (by kernel_rfl)
instance : TOne Tryz.prog 31 := .of (by kernel_rfl)
instance : TZero Tryz.prog 31 [.v (.slice none 0 0)] := TZero.of' (zs := [.slice none 0 0]) (by kernel_rfl) rfl
instance : TSl Tryz.prog 31 26 4 := .of (by kernel_rfl)
instance : TAp Tryz.prog 31 26 4 64 := TAp.of (zs := [.bool false, .slice none 0 0, .bool false, .slice none 0 0]) (by kernel_rfl) rfl (by decide) (by decide)
instance : TBs Tryz.prog 31 26 4 := TBs.of (zs := [.bool false, .slice none 0 0, .bool false, .slice none 0 0]) (bytes := 64) (by kernel_rfl) rfl (by decide)
instance : TSz Tryz.prog 32 1 := .of (by kernel_rfl)
instance : TOne Tryz.prog 32 := .of (by kernel_rfl)
instance : TZero Tryz.prog 32 [.v (.int .i64 0)] := TZero.of' (zs := [.int .i64 0]) (by kernel_rfl) rfl
instance : TInt Tryz.prog 32 .i64 := .of (by kernel_rfl)
instance : TSz Tryz.prog 52 2 := .of (by kernel_rfl)
instance : TAgg Tryz.prog 52 2 := .of (by kernel_rfl)
instance : TZero Tryz.prog 52 [.v (.bool false), .v (.slice none 0 0)] := TZero.of' (zs := [.bool false, .slice none 0 0]) (by kernel_rfl) rfl
instance : TFld Tryz.prog 52 0 0 := .of (by kernel_rfl)
instance : TFld Tryz.prog 52 1 1 := .of (by kernel_rfl)
instance : TPl Tryz.prog 52 [.v (.bool false), .v (.slice none 0 0)] [(0, 1), (1, 1)] := TPl.of (zs := [.bool false, .slice none 0 0]) (by kernel_rfl) rfl
instance : TSz Tryz.prog 53 2 := .of (by kernel_rfl)
instance : TAgg Tryz.prog 53 2 := .of (by kernel_rfl)
instance : TZero Tryz.prog 53 [.v (.bool false), .v (.slice none 0 0)] := TZero.of' (zs := [.bool false, .slice none 0 0]) (by kernel_rfl) rfl
instance : TFld Tryz.prog 53 0 0 := .of (by kernel_rfl)
instance : TFld Tryz.prog 53 1 1 := .of (by kernel_rfl)
instance : TPl Tryz.prog 53 [.v (.bool false), .v (.slice none 0 0)] [(0, 1), (1, 1)] := TPl.of (zs := [.bool false, .slice none 0 0]) (by kernel_rfl) rfl
instance : TSz Tryz.prog 65 1 := .of (by kernel_rfl)
instance : TOne Tryz.prog 65 := .of (by kernel_rfl)
instance : TZero Tryz.prog 65 [.v (.int .u32 0)] := TZero.of' (zs := [.int .u32 0]) (by kernel_rfl) rfl
instance : TInt Tryz.prog 65 .u32 := .of (by kernel_rfl)
instance : TSz Tryz.prog 77 1 := .of (by kernel_rfl)
instance : TOne Tryz.prog 77 := .of (by kernel_rfl)
instance : TZero Tryz.prog 77 [.v (.slice none 0 0)] := TZero.of' (zs := [.slice none 0 0]) (by kernel_rfl) rfl
instance : TSl Tryz.prog 77 24 2 := .of (by kernel_rfl)
instance : TAp Tryz.prog 77 24 2 32 := TAp.of (zs := [.bool false, .slice none 0 0]) (by kernel_rfl) rfl (by decide) (by decide)
instance : TBs Tryz.prog 77 24 2 := TBs.of (zs := [.bool false, .slice none 0 0]) (bytes := 32) (by kernel_rfl) rfl (by decide)
instance : TSz Tryz.prog 89 1 := .of (by kernel_rfl)
instance : TOne Tryz.prog 89 := .of (by kernel_rfl)
instance : TZero Tryz.prog 89 [.v (.int .u64 0)] := TZero.of' (zs := [.int .u64 0]) (by kernel_rfl) rfl
instance : TInt Tryz.prog 89 .u64 := .of (by kernel_rfl)
instance : TSz Tryz.prog 90 1 := .of (by kernel_rfl)
instance : TOne Tryz.prog 90 := .of (by kernel_rfl)
instance : TZero Tryz.prog 90 [.v (.int .u64 0)] := TZero.of' (zs := [.int .u64 0]) (by kernel_rfl) rfl
instance : TInt Tryz.prog 90 .u64 := .of (by kernel_rfl)
instance : TSz Tryz.prog 91 2 := .of (by kernel_rfl)
instance : TAgg Tryz.prog 91 2 := .of (by kernel_rfl)
instance : TZero Tryz.prog 91 [.v (.int .u32 0), .v (.int .u32 0)] := TZero.of' (zs := [.int .u32 0, .int .u32 0]) (by kernel_rfl) rfl
instance : TArr Tryz.prog 91 2 := .of (by kernel_rfl)
instance : TPa Tryz.prog 91 [.v (.int .u32 0), .v (.int .u32 0)] 2 := TPa.of (zs := [.int .u32 0, .int .u32 0]) (by kernel_rfl) rfl
instance : TSz Tryz.prog 95 1 := .of (by kernel_rfl)
instance : TOne Tryz.prog 95 := .of (by kernel_rfl)
instance : TZero Tryz.prog 95 [.v (.slice none 0 0)] := TZero.of' (zs := [.slice none 0 0]) (by kernel_rfl) rfl
instance : TSl Tryz.prog 95 5 1 := .of (by kernel_rfl)
instance : TAp Tryz.prog 95 5 1 1 := TAp.of (zs := [.int .u8 0]) (by kernel_rfl) rfl (by decide) (by decide)
instance : TBs Tryz.prog 95 5 1 := TBs.of (zs := [.int .u8 0]) (bytes := 1) (by kernel_rfl) rfl (by decide)
instance : TMk Tryz.prog 95 5 .u8 1 := TMk.of (by kernel_rfl) (by decide)
instance : TSz Tryz.prog 96 1 := .of (by kernel_rfl)
instance : TOne Tryz.prog 96 := .of (by kernel_rfl)
instance : TZero Tryz.prog 96 [.v (.slice none 0 0)] := TZero.of' (zs := [.slice none 0 0]) (by kernel_rfl) rfl
instance : TSl Tryz.prog 96 3 1 := .of (by kernel_rfl)
instance : TAp Tryz.prog 96 3 1 8 := TAp.of (zs := [.int .i64 0]) (by kernel_rfl) rfl (by decide) (by decide)
instance : TBs Tryz.prog 96 3 1 := TBs.of (zs := [.int .i64 0]) (bytes := 8) (by kernel_rfl) rfl (by decide)
instance : TMk Tryz.prog 96 3 .i64 8 := TMk.of (by kernel_rfl) (by decide)
instance : TSz Tryz.prog 131 1 := .of (by kernel_rfl)
instance : TAgg Tryz.prog 131 1 := .of (by kernel_rfl)
instance : TZero Tryz.prog 131 [.v (.string ⟨#[]⟩)] := TZero.of' (zs := [.string ⟨#[]⟩]) (by kernel_rfl) rfl
instance : TFld Tryz.prog 131 0 0 := .of (by kernel_rfl)
instance : TPl Tryz.prog 131 [.v (.string ⟨#[]⟩)] [(0, 1)] := TPl.of (zs := [.string ⟨#[]⟩]) (by kernel_rfl) rfl
instance : TSz Tryz.prog 132 1 := .of (by kernel_rfl)
instance : TAgg Tryz.prog 132 1 := .of (by kernel_rfl)
instance : TZero Tryz.prog 132 [.v (.string ⟨#[]⟩)] := TZero.of' (zs := [.string ⟨#[]⟩]) (by kernel_rfl) rfl
instance : TFld Tryz.prog 132 0 0 := .of (by kernel_rfl)
instance : TPl Tryz.prog 132 [.v (.string ⟨#[]⟩)] [(0, 1)] := TPl.of (zs := [.string ⟨#[]⟩]) (by kernel_rfl) rfl
theorem mixed : Tryz.prog.follows .mixedOrders = true := by kernel_rfl
end Go.Av

/-! Plain arithmetic of limbs: no program here. -/
namespace Go.Av
def B : Nat := 4294967296
theorem B_pos : 0 < B := by decide
theorem Bp_pos (k : Nat) : 0 < B ^ k := Nat.pow_pos B_pos
theorem B_pow (k : Nat) : B ^ k = 2 ^ (32 * k) := by rw [Nat.pow_mul]; rfl
/-- The i-th limb of n. -/
def dg (n i : Nat) : Nat := n / B ^ i % B
/-- The lowest k limbs of n. -/
def padd (k n : Nat) : List Int := (List.range k).map fun i => ((dg n i : Nat) : Int)
/-- How many limbs n has. -/
def ln (n : Nat) : Nat := if n = 0 then 0 else n.log2 / 32 + 1
/-- The limbs of n, without zeros at the end. -/
def limbs (n : Nat) : List Int := padd (ln n) n
/-- What a list of limbs says. -/
def val : List Int → Nat
  | [] => 0
  | x :: l => x.toNat + B * val l
def wf (l : List Int) : Prop := ∀ x ∈ l, 0 ≤ x ∧ x < 4294967296

theorem dg_lt (n i : Nat) : dg n i < B := Nat.mod_lt _ B_pos
theorem dg_lt' (n i : Nat) : ((dg n i : Nat) : Int) < 4294967296 := by have := dg_lt n i; unfold B at this; omega
@[simp] theorem padd_length (k n : Nat) : (padd k n).length = k := by simp [padd]
@[simp] theorem limbs_length (n : Nat) : (limbs n).length = ln n := by simp [limbs]
theorem ln_le {n k : Nat} : ln n ≤ k ↔ n < B ^ k := by
  unfold ln
  rw [B_pow]
  split
  · rename_i h
    subst h
    exact ⟨fun _ => Nat.pow_pos (by decide), fun _ => Nat.zero_le _⟩
  · rename_i h
    rw [← Nat.log2_lt h]
    omega
theorem lt_ln (n : Nat) : n < B ^ ln n := ln_le.1 (Nat.le_refl _)
theorem ln_zero : ln 0 = 0 := rfl
theorem ln_pos {n : Nat} : 0 < ln n ↔ 0 < n := by
  unfold ln; split <;> omega
theorem ln_mono {a b : Nat} (h : a ≤ b) : ln a ≤ ln b := ln_le.2 (Nat.lt_of_le_of_lt h (lt_ln b))
theorem dg_big {n i : Nat} (h : ln n ≤ i) : dg n i = 0 := by
  unfold dg; rw [Nat.div_eq_of_lt (ln_le.1 h)]; rfl
theorem rd_padd {k n : Nat} {i : Int} (h0 : 0 ≤ i) (h : i < k) : (padd k n).getD i.toNat 0 = ((dg n i.toNat : Nat) : Int) := by
  have : i.toNat < k := by omega
  simp [padd, List.getD_eq_getElem?_getD, this]
theorem wf_padd (k n : Nat) : wf (padd k n) := by
  intro x hx
  simp only [padd, List.mem_map] at hx
  obtain ⟨i, _, rfl⟩ := hx
  exact ⟨by omega, dg_lt' n i⟩
theorem wf_limbs (n : Nat) : wf (limbs n) := wf_padd _ _
theorem padd_succ (k n : Nat) : padd (k + 1) n = padd k n ++ [((dg n k : Nat) : Int)] := by
  simp [padd, List.range_succ]
theorem padd_zero (n : Nat) : padd 0 n = [] := rfl
theorem mod_succ (n k : Nat) : n % B ^ (k + 1) = n % B ^ k + B ^ k * dg n k := by
  rw [Nat.pow_succ, Nat.mod_mul]; rfl
theorem val_append : ∀ (l m : List Int), val (l ++ m) = val l + B ^ l.length * val m
  | [], m => by simp [val]
  | x :: l, m => by
    simp only [List.cons_append, val, val_append l m, List.length_cons, Nat.pow_succ]
    rw [Nat.mul_add, Nat.add_assoc, ← Nat.mul_assoc, Nat.mul_comm (B ^ l.length) B]
theorem val_padd (k n : Nat) : val (padd k n) = n % B ^ k := by
  induction k with
  | zero => simp [padd_zero, val, Nat.mod_one]
  | succ k ih => rw [padd_succ, val_append, ih, padd_length, mod_succ]; simp [val]
theorem val_limbs (n : Nat) : val (limbs n) = n := by
  unfold limbs
  rw [val_padd, Nat.mod_eq_of_lt (lt_ln n)]
theorem val_lt : ∀ {l : List Int}, wf l → val l < B ^ l.length
  | [], _ => by simp [val]
  | x :: l, h => by
    have hx := h x (by simp)
    have ih := val_lt (l := l) (fun y hy => h y (by simp [hy]))
    simp only [val, List.length_cons, Nat.pow_succ]
    have h1 : x.toNat < B := by unfold B; omega
    have h2 : B * val l + B ≤ B ^ l.length * B := by
      rw [Nat.mul_comm (B ^ l.length) B, ← Nat.mul_succ]
      exact Nat.mul_le_mul_left _ ih
    omega
theorem dg_cons_zero {x : Int} {l : List Int} (h : 0 ≤ x ∧ x < 4294967296) : dg (val (x :: l)) 0 = x.toNat := by
  have h1 : x.toNat < B := by unfold B; omega
  simp [dg, val, Nat.mod_eq_of_lt h1]
theorem dg_cons_succ {x : Int} {l : List Int} (h : 0 ≤ x ∧ x < 4294967296) (i : Nat) : dg (val (x :: l)) (i + 1) = dg (val l) i := by
  have h1 : x.toNat < B := by unfold B; omega
  unfold dg
  rw [Nat.pow_succ, Nat.mul_comm (B ^ i) B, ← Nat.div_div_eq_div_mul]
  congr 2
  simp only [val]
  rw [Nat.add_mul_div_left _ _ B_pos, Nat.div_eq_of_lt h1, Nat.zero_add]
theorem padd_val : ∀ {l : List Int}, wf l → padd l.length (val l) = l
  | [], _ => rfl
  | x :: l, h => by
    have hx := h x (by simp)
    have ih := padd_val (l := l) (fun y hy => h y (by simp [hy]))
    simp only [List.length_cons, padd, List.range_succ_eq_map, List.map_cons, List.map_map]
    rw [dg_cons_zero hx]
    congr 1
    · omega
    · refine Eq.trans ?_ ih
      unfold padd
      apply List.map_congr_left
      intro i _
      simp only [Function.comp]
      rw [Nat.succ_eq_add_one, dg_cons_succ hx]
theorem rd_wf {l : List Int} (h : wf l) {i : Int} (h0 : 0 ≤ i) : l.getD i.toNat 0 = ((dg (val l) i.toNat : Nat) : Int) := by
  by_cases hl : i < l.length
  · have := rd_padd (k := l.length) (n := val l) h0 hl
    rwa [padd_val h] at this
  · rw [List.getD_eq_getElem?_getD, List.getElem?_eq_none (by omega)]
    have : dg (val l) i.toNat = 0 := by
      unfold dg
      rw [Nat.div_eq_of_lt (Nat.lt_of_lt_of_le (val_lt h) (Nat.pow_le_pow_right B_pos (by omega)))]
      rfl
    simp [this]
/-- A list whose last limb is not 0 has the limbs of its value. -/
theorem limbs_val {l : List Int} (h : wf l) (hl : l = [] ∨ l.getD (l.length - 1) 0 ≠ 0) : limbs (val l) = l := by
  have hle : ln (val l) ≤ l.length := ln_le.2 (val_lt h)
  have hge : l.length ≤ ln (val l) := by
    rcases hl with rfl | hl
    · simp
    · rcases Nat.lt_or_ge (ln (val l)) l.length with h1 | h1
      · exfalso
        apply hl
        have h2 : ln (val l) ≤ l.length - 1 := by omega
        have := rd_wf h (i := ((l.length - 1 : Nat) : Int)) (by omega)
        simp only [Int.toNat_natCast] at this
        rw [this, dg_big h2]; rfl
      · exact h1
  have : ln (val l) = l.length := Nat.le_antisymm hle hge
  unfold limbs
  rw [this, padd_val h]
theorem top_ne {n : Nat} (h : 0 < n) : dg n (ln n - 1) ≠ 0 := by
  intro h0
  have hp := ln_pos.2 h
  have h1 : n % B ^ ln n = n := Nat.mod_eq_of_lt (lt_ln n)
  have h2 := mod_succ n (ln n - 1)
  rw [show ln n - 1 + 1 = ln n by omega, h1, h0] at h2
  have h3 : n < B ^ (ln n - 1) := by
    have := Nat.mod_lt n (Bp_pos (ln n - 1))
    omega
  have := ln_le.2 h3
  omega
theorem limbs_inj {a b : Nat} (h : limbs a = limbs b) : a = b := by rw [← val_limbs a, ← val_limbs b, h]
theorem limbs_nil {n : Nat} : limbs n = [] ↔ n = 0 := by
  constructor
  · intro h; have := congrArg val h; rw [val_limbs] at this; simpa [val] using this
  · intro h; subst h; rfl
/-- Zeros at the end are cut off. -/
theorem padd_cut {k n : Nat} (h : n < B ^ k) : limbs n = (padd k n).take (ln n) := by
  have := ln_le.2 h
  unfold limbs padd
  rw [← List.map_take, List.take_range, Nat.min_eq_left this]
theorem padd_take {j k n : Nat} (h : j ≤ k) : (padd k n).take j = padd j n := by
  unfold padd
  rw [← List.map_take, List.take_range, Nat.min_eq_left h]
theorem padd_congr {k a b : Nat} (h : a % B ^ k = b % B ^ k) : padd k a = padd k b := by
  have ha := padd_val (wf_padd k a)
  have hb := padd_val (wf_padd k b)
  rw [val_padd, padd_length] at ha hb
  rw [← ha, ← hb, h]
end Go.Av

set_option maxHeartbeats 4000000
set_option linter.unusedVariables false
set_option linter.unusedSimpArgs false
namespace Go.Av
open Go Go.Proofs
abbrev Li (l : List Int) : PV := .si false .u32 l
abbrev FLi (l : List Int) : PV := .si true .u32 l
abbrev M (n : Nat) : PV := .si false .u32 (limbs n)
abbrev FM (n : Nat) : PV := .si true .u32 (limbs n)
abbrev I (n : Int) : PV := .v (.int .i64 n)
abbrev U (n : Int) : PV := .v (.int .u32 n)
abbrev UU (n : Int) : PV := .v (.int .u64 n)
abbrev Bo (b : Bool) : PV := .v (.bool b)

theorem rd_limbs (n : Nat) {i : Int} (h : 0 ≤ i) : rd (limbs n) i = ((dg n i.toNat : Nat) : Int) := by
  have := rd_wf (wf_limbs n) h
  rwa [val_limbs] at this

/-! limbs.limb -/
theorem limb_c (l : List Int) (i : Int) (h0 : 0 ≤ i) : Con Tryz.prog 73 [Li l, I i] (U (rd l i)) := by
  refine con_of Tryz.func73 rfl rfl rfl rfl rfl ?_
  by_cases h : i < l.length
  · repeat (first | refine seq_ ?_ | refine region_ ?_ | refine nil_ ?_ | refine ret_ ?_ | refine cond_t rfl ?_ | refine stepY (y_move rfl) rfl ?_ | refine stepY (y_assign rfl) rfl ?_ | refine stepY (y_load_rc1 rfl rfl) rfl ?_ | refine stepY (y_len_si rfl) rfl ?_ | refine stepY (y_index_si rfl rfl (by omega) (by omega)) rfl ?_ | refine stepY (y_cmpT rfl rfl rfl (by omega)) rfl ?_)
    ((apply fin_r); (repeat (first | exact .nil | exact .tmp rfl | apply ResL.cons)); (repeat (exact .refl _)))
  · have hz : rd l i = 0 := by unfold rd; rw [List.getD_eq_getElem?_getD, List.getElem?_eq_none (by omega)]; rfl
    repeat (first | refine seq_ ?_ | refine region_ ?_ | refine nil_ ?_ | refine skip_ ?_ | refine ret_ ?_ | refine cond_f rfl ?_ | refine stepY (y_move rfl) rfl ?_ | refine stepY (y_assign rfl) rfl ?_ | refine stepY (y_len_si rfl) rfl ?_ | refine stepY (y_cmpF rfl rfl rfl (by omega)) rfl ?_)
    rw [hz]
    ((apply fin_r); (repeat (first | exact .nil | exact .tmp rfl | apply ResL.cons)); (repeat (exact .refl _)))

/-! limbs.Trim -/
theorem Trim_c (l : List Int) (hw : wf l) : Con Tryz.prog 43 [Li l] (M (val l)) := by
  refine con_of Tryz.func43 rfl rfl rfl rfl rfl ?_
  refine len_C (i := 0) rfl (fun hL => ?_)
  repeat (first | refine seq_ ?_ | refine region_ ?_ | refine nil_ ?_ | refine block_ ?_ | refine stepY (y_assign rfl) rfl ?_)
  refine loop_ (α := Nat) (fun k => ([(0, .p (Li (l.take k)))], [])) (fun k => k ≤ l.length ∧ val (l.take k) = val l) id l.length ⟨Nat.le_refl _, by simp⟩ ?_ ?_ ?_
  · simp only [List.take_length]; (repeat (first | exact sub_nil | refine sub_cons rfl ?_))
  · (repeat (exact subH_nil))
  intro k ⟨hk, hv⟩
  have hlen : (l.take k).length = k := by simp; omega
  have hwk : wf (l.take k) := fun x hx => hw x (List.mem_of_mem_take hx)
  by_cases h0 : (0 : Int) < ((l.take k).length : Int)
  · by_cases h1 : rd (l.take k) (((l.take k).length : Int) - 1) = 0
    · repeat (first | refine seq_ ?_ | refine region_ ?_ | refine nil_ ?_ | refine skip_ ?_ | refine block_ ?_ | refine cond_t rfl ?_ | refine guard_t rfl rfl rfl ?_ | refine stepY (y_move rfl) rfl ?_ | refine stepY (y_assign rfl) rfl ?_ | refine stepY (y_load_rc1 rfl rfl) rfl ?_ | refine stepY (y_len_si rfl) rfl ?_ | refine stepY (y_pick_t rfl rfl) rfl ?_ | refine stepY (y_index_si rfl rfl (by omega) (by omega)) rfl ?_ | refine stepY (y_slice_si_h rfl rfl (by omega) (by omega)) rfl ?_ | refine stepY (y_binn rfl rfl rfl (by simp only [InK, loK, hiK]; omega)) rfl ?_ | refine stepY (y_cmpT rfl rfl rfl (by omega)) rfl ?_ | refine stepY (y_cmpT rfl rfl rfl (by omega)) rfl ?_)
      obtain ⟨j, rfl⟩ : ∃ j, k = j + 1 := ⟨k - 1, by omega⟩
      have hj : (((l.take (j + 1)).length : Int) - 1).toNat = j := by omega
      rw [hj, List.take_take, Nat.min_eq_left (by omega)]
      refine ⟨j, ⟨by omega, ?_⟩, Nat.lt_succ_self j, ?_, ?_⟩
      · rw [← hv, List.take_add_one, val_append, List.getElem?_eq_getElem (by omega)]
        unfold rd at h1
        rw [hj, List.getD_eq_getElem?_getD, List.getElem?_take_of_lt (by omega), List.getElem?_eq_getElem (by omega)] at h1
        simp only [Option.getD_some] at h1
        simp [h1, val]
      · (repeat (first | exact sub_nil | refine sub_cons rfl ?_))
      · (repeat (exact subH_nil))
    · repeat (first | refine seq_ ?_ | refine region_ ?_ | refine nil_ ?_ | refine exit_ ?_ | refine ret_ ?_ | refine cond_f rfl ?_ | refine guard_t rfl rfl rfl ?_ | refine stepY (y_move rfl) rfl ?_ | refine stepY (y_assign rfl) rfl ?_ | refine stepY (y_load_rc1 rfl rfl) rfl ?_ | refine stepY (y_len_si rfl) rfl ?_ | refine stepY (y_pick_t rfl rfl) rfl ?_ | refine stepY (y_index_si rfl rfl (by omega) (by omega)) rfl ?_ | refine stepY (y_binn rfl rfl rfl (by simp only [InK, loK, hiK]; omega)) rfl ?_ | refine stepY (y_cmpF rfl rfl rfl (by omega)) rfl ?_ | refine stepY (y_cmpT rfl rfl rfl (by omega)) rfl ?_)
      rw [← hv]; unfold M; rw [limbs_val hwk (.inr (by unfold rd at h1; rwa [show (((l.take k).length : Int) - 1).toNat = (l.take k).length - 1 by omega] at h1))]
      ((apply fin_r); (repeat (first | exact .nil | exact .tmp rfl | apply ResL.cons)); (repeat (exact .refl _)))
  · repeat (first | refine seq_ ?_ | refine region_ ?_ | refine nil_ ?_ | refine exit_ ?_ | refine ret_ ?_ | refine cond_f rfl ?_ | refine guard_f rfl rfl rfl rfl ?_ | refine stepY (y_move rfl) rfl ?_ | refine stepY (y_assign rfl) rfl ?_ | refine stepY (y_len_si rfl) rfl ?_ | refine stepY (y_pick_f rfl rfl) rfl ?_ | refine stepY (y_cmpF rfl rfl rfl (by omega)) rfl ?_)
    have : l.take k = [] := List.eq_nil_of_length_eq_zero (by omega)
    rw [← hv]; unfold M; rw [this]
    ((apply fin_r); (repeat (first | exact .nil | exact .tmp rfl | apply ResL.cons)); (repeat (exact .refl _)))
end Go.Av

/-! Plain arithmetic of limbs: sums, differences, products. -/
namespace Go.Av
theorem Int_dg (n i : Nat) : 0 ≤ ((dg n i : Nat) : Int) ∧ ((dg n i : Nat) : Int) < 4294967296 := ⟨by omega, dg_lt' n i⟩
/-- i limbs of n, then zeros, m in all. -/
def pz (i m n : Nat) : List Int := padd i n ++ List.replicate (m - i) 0
theorem pz_length {i m n : Nat} (h : i ≤ m) : (pz i m n).length = m := by simp [pz]; omega
theorem pz_zero (m n : Nat) : pz 0 m n = List.replicate m 0 := by simp [pz, padd_zero]
theorem pz_full (m n : Nat) : pz m m n = padd m n := by simp [pz]
theorem pz_set {i m n : Nat} (h : i < m) : (pz i m n).set i ((dg n i : Nat) : Int) = pz (i + 1) m n := by
  unfold pz
  rw [List.set_append_right _ _ (by simp), padd_succ]
  obtain ⟨k, hk⟩ : ∃ k, m - i = k + 1 := ⟨m - i - 1, by omega⟩
  rw [hk, List.replicate_succ, show m - (i + 1) = k by omega]
  simp
/-- the carry of a sum into limb i -/
def cy (a b i : Nat) : Nat := (a % B ^ i + b % B ^ i) / B ^ i
theorem cy_zero (a b : Nat) : cy a b 0 = 0 := by simp [cy, Nat.mod_one]
theorem cy_le (a b i : Nat) : cy a b i ≤ 1 := by
  unfold cy
  have h1 := Nat.mod_lt a (Bp_pos i)
  have h2 := Nat.mod_lt b (Bp_pos i)
  have : (a % B ^ i + b % B ^ i) / B ^ i < 2 := by rw [Nat.div_lt_iff_lt_mul (Bp_pos i)]; omega
  omega
theorem cy_step (a b i : Nat) : dg a i + dg b i + cy a b i = dg (a + b) i + B * cy a b (i + 1) := by
  have e1 : ∀ j, a % B ^ j + b % B ^ j = (a + b) % B ^ j + B ^ j * cy a b j := by
    intro j
    unfold cy
    rw [Nat.add_mod a b, Nat.mod_add_div]
  have h1 := e1 i
  have h2 := e1 (i + 1)
  rw [mod_succ, mod_succ, mod_succ, Nat.pow_succ] at h2
  have h3 : B ^ i * (dg a i + dg b i + cy a b i) = B ^ i * (dg (a + b) i + B * cy a b (i + 1)) := by
    rw [Nat.mul_add, Nat.mul_add, Nat.mul_add, ← Nat.mul_assoc]
    omega
  exact Nat.eq_of_mul_eq_mul_left (Bp_pos i) h3
theorem cy_top {a b i : Nat} (ha : a < B ^ i) (hb : b < B ^ i) : cy a b i = dg (a + b) i := by
  have h := cy_step a b i
  have h1 : dg a i = 0 := dg_big (ln_le.2 ha)
  have h2 : dg b i = 0 := dg_big (ln_le.2 hb)
  have h3 := cy_le a b i
  have h4 := dg_lt (a + b) i
  have h5 : B * cy a b (i + 1) < B * 1 := by unfold B at *; omega
  have h6 : cy a b (i + 1) = 0 := by
    have := Nat.lt_of_mul_lt_mul_left h5
    omega
  rw [h6] at h
  omega
/-- the borrow of a difference into limb i -/
def bw (a b i : Nat) : Nat := if a % B ^ i < b % B ^ i then 1 else 0
theorem bw_zero (a b : Nat) : bw a b 0 = 0 := by simp [bw, Nat.mod_one]
theorem bw_le (a b i : Nat) : bw a b i ≤ 1 := by unfold bw; split <;> omega
theorem bw_step {a b : Nat} (h : b ≤ a) (i : Nat) : (dg a i : Int) - dg b i - bw a b i = dg (a - b) i - 4294967296 * bw a b (i + 1) := by
  have key : ∀ j, (a % B ^ j : Nat) + B ^ j * bw a b j = (a - b) % B ^ j + b % B ^ j := by
    intro j
    have e : a % B ^ j = ((a - b) % B ^ j + b % B ^ j) % B ^ j := by rw [← Nat.add_mod, Nat.sub_add_cancel h]
    have h1 := Nat.mod_lt (a - b) (Bp_pos j)
    have h2 := Nat.mod_lt b (Bp_pos j)
    unfold bw
    generalize (a - b) % B ^ j = f at *
    generalize b % B ^ j = g at *
    generalize a % B ^ j = x at *
    generalize B ^ j = p at *
    rcases Nat.lt_or_ge (f + g) p with h3 | h3
    · rw [Nat.mod_eq_of_lt h3] at e
      rw [if_neg (by omega)]; omega
    · rw [Nat.mod_eq_sub_mod h3, Nat.mod_eq_of_lt (by omega)] at e
      rw [if_pos (by omega)]; omega
  have h1 := key i
  have h2 := key (i + 1)
  rw [mod_succ, mod_succ, mod_succ, Nat.pow_succ] at h2
  have h3 : B ^ i * (dg a i + B * bw a b (i + 1)) = B ^ i * (dg (a - b) i + dg b i + bw a b i) := by
    rw [Nat.mul_add, Nat.mul_add, Nat.mul_add, ← Nat.mul_assoc]
    omega
  have h4 := Nat.eq_of_mul_eq_mul_left (Bp_pos i) h3
  have h5 : ((B : Nat) : Int) = 4294967296 := rfl
  have h6 : ((dg a i + B * bw a b (i + 1) : Nat) : Int) = ((dg (a - b) i + dg b i + bw a b i : Nat) : Int) := by rw [h4]
  simp only [Int.natCast_add, Int.natCast_mul, h5] at h6
  omega
theorem bit31 {x : Nat} (h : x < 4294967296) : x / 2147483648 = (x.testBit 31).toNat := by
  have h1 : x / 2147483648 < 2 := by omega
  have h2 : x.testBit 31 = decide (x / 2147483648 % 2 = 1) := by rw [Nat.testBit_eq_decide_div_mod_eq]
  rw [h2]
  have : x / 2147483648 = 0 ∨ x / 2147483648 = 1 := by omega
  rcases this with h3 | h3 <;> rw [h3] <;> rfl
/-- The borrow that math/bits.Sub32 reads off the highest bits. -/
theorem sub32_bit {x y c : Nat} (hx : x < 4294967296) (hy : y < 4294967296) (hc : c ≤ 1) :
    bits .or .u32 (bits .and .u32 (bits .xor .u32 (IntKind.max .u32) x) y) (bits .and .u32 (bits .xor .u32 (IntKind.max .u32) (bits .xor .u32 x y)) (((x : Int) - y - c) % 4294967296)) / 2147483648 = if (x : Int) < y + c then 1 else 0 := by
  obtain ⟨d, hd, hd1⟩ : ∃ d : Nat, ((x : Int) - y - c) % 4294967296 = (d : Nat) ∧ d < 4294967296 := ⟨(((x : Int) - y - c) % 4294967296).toNat, by omega, by omega⟩
  have hmax : IntKind.max .u32 = ((4294967295 : Nat) : Int) := rfl
  have hxor : ∀ {a b : Nat}, a < 4294967296 → b < 4294967296 → a ^^^ b < 4294967296 := fun {a b} ha hb => Nat.xor_lt_two_pow (n := 32) ha hb
  have hand : ∀ {a b : Nat}, a < 4294967296 → a &&& b < 4294967296 := fun {a b} ha => Nat.lt_of_le_of_lt Nat.and_le_left ha
  have hor : ∀ {a b : Nat}, a < 4294967296 → b < 4294967296 → a ||| b < 4294967296 := fun {a b} ha hb => Nat.or_lt_two_pow (n := 32) ha hb
  rw [hd, hmax, u32_xor_nat _ _ (by decide) hx, u32_xor_nat _ _ hx hy, u32_xor_nat _ _ (by decide) (hxor hx hy), u32_and_nat _ _ (hxor (by decide) hx) hy, u32_and_nat _ _ (hxor (by decide) (hxor hx hy)) hd1, u32_or_nat _ _ (hand (hxor (by decide) hx)) (hand (hxor (by decide) (hxor hx hy)))]
  rw [show (2147483648 : Int) = ((2147483648 : Nat) : Int) from rfl, ← Int.natCast_ediv, bit31 (hor (hand (hxor (by decide) hx)) (hand (hxor (by decide) (hxor hx hy))))]
  simp only [Nat.testBit_or, Nat.testBit_and, Nat.testBit_xor]
  have t0 : (4294967295 : Nat).testBit 31 = true := by decide
  have tx := bit31 hx
  have ty := bit31 hy
  have td := bit31 hd1
  rw [t0]
  have ex := Nat.div_add_mod x 2147483648
  have ey := Nat.div_add_mod y 2147483648
  have ed := Nat.div_add_mod d 2147483648
  have mx := Nat.mod_lt x (show 2147483648 > 0 by decide)
  have my := Nat.mod_lt y (show 2147483648 > 0 by decide)
  have md := Nat.mod_lt d (show 2147483648 > 0 by decide)
  rw [tx] at ex
  rw [ty] at ey
  rw [td] at ed
  generalize x % 2147483648 = x' at *
  generalize y % 2147483648 = y' at *
  generalize d % 2147483648 = d' at *
  cases hbx : x.testBit 31 <;> cases hby : y.testBit 31 <;> cases hbd : d.testBit 31 <;> simp only [hbx, hby, hbd, Bool.toNat_true, Bool.toNat_false] at ex ey ed ⊢ <;> simp <;> omega
end Go.Av

set_option maxHeartbeats 4000000
set_option linter.unusedVariables false
set_option linter.unusedSimpArgs false
namespace Go.Av
open Go Go.Proofs
theorem wf_get {l : List Int} (h : wf l) {i : Nat} (hi : i < l.length) : 0 ≤ l[i] ∧ l[i] < 4294967296 := h _ (List.getElem_mem hi)
theorem rd_dg {l : List Int} (h : wf l) {i : Int} (h0 : 0 ≤ i) : rd l i = ((dg (val l) i.toNat : Nat) : Int) := rd_wf h h0
theorem rd_dgk {l : List Int} (h : wf l) (k : Nat) : rd l (k : Int) = ((dg (val l) k : Nat) : Int) := by rw [rd_wf' h]
  where rd_wf' {l : List Int} (h : wf l) {k : Nat} : rd l (k : Int) = ((dg (val l) k : Nat) : Int) := by have := rd_wf h (i := (k : Int)) (by omega); simpa [rd] using this
theorem dg_bd (n i : Nat) : 0 ≤ ((dg n i : Nat) : Int) ∧ ((dg n i : Nat) : Int) < 4294967296 := Int_dg n i

/-! math/bits.Add32, Sub32 -/
theorem Add32_c (x y c : Int) (hx : 0 ≤ x ∧ x < 4294967296) (hy : 0 ≤ y ∧ y < 4294967296) (hc : 0 ≤ c ∧ c ≤ 1) : Con Tryz.prog 72 [U x, U y, U c] (.tp [U ((x + y + c) % 4294967296), U ((x + y + c) / 4294967296)]) := by
  refine con_of Tryz.func72 rfl rfl rfl rfl rfl ?_
  repeat (first | refine seq_ ?_ | refine region_ ?_ | refine nil_ ?_ | refine ret_ ?_ | refine stepY (y_move rfl) rfl ?_ | refine stepY (y_assign rfl) rfl ?_ | (first | refine stepY (y_convn rfl (by simp only [InK, loK, hiK]; omega)) rfl ?_ | refine stepY (y_conv rfl) rfl ?_) | refine stepY (y_binn rfl rfl rfl (by simp only [InK, loK, hiK]; omega)) rfl ?_ | refine stepY (y_shr32 rfl rfl (by decide)) rfl ?_)
  ((apply fin_r); (repeat (first | exact .nil | exact .tmp rfl | apply ResL.cons)); (repeat (exact .refl _)))
theorem Sub32_c (x y c : Nat) (hx : x < 4294967296) (hy : y < 4294967296) (hc : c ≤ 1) : Con Tryz.prog 93 [U x, U y, U c] (.tp [U (((x : Int) - y - c) % 4294967296), U (if (x : Int) < y + c then 1 else 0)]) := by
  refine con_of Tryz.func93 rfl rfl rfl rfl rfl ?_
  rw [← sub32_bit hx hy hc]
  repeat (first | refine seq_ ?_ | refine region_ ?_ | refine nil_ ?_ | refine ret_ ?_ | refine stepY (y_move rfl) rfl ?_ | refine stepY (y_assign rfl) rfl ?_ | refine stepY (y_com rfl) rfl ?_ | refine stepY (y_bin rfl rfl rfl) rfl ?_ | refine stepY (y_shr31 rfl rfl (by decide)) rfl ?_ | refine stepY (y_bin rfl rfl rfl) rfl ?_)
  have e : IntKind.wrap .u32 (IntKind.wrap .u32 ((x : Int) - y) - c) = ((x : Int) - y - c) % 4294967296 := by simp only [wrap_u32]; omega
  rw [e]
  ((apply fin_r); (repeat (first | exact .nil | exact .tmp rfl | apply ResL.cons)); (repeat (exact .refl _)))
/-- one limb of a sum -/
theorem add_c (a b i : Nat) : Con Tryz.prog 72 [U (dg a i), U (dg b i), U (cy a b i)] (.tp [U (dg (a + b) i), U (cy a b (i + 1))]) := by
  have h1 := cy_step a b i
  have h2 := dg_lt (a + b) i
  have h3 := cy_le a b i
  have h := Add32_c (dg a i) (dg b i) (cy a b i) (dg_bd a i) (dg_bd b i) (by omega)
  have e : ((dg a i : Int) + dg b i + cy a b i) = dg (a + b) i + 4294967296 * cy a b (i + 1) := by unfold B at h1; omega
  rw [e] at h
  rw [show ((dg (a + b) i : Int) + 4294967296 * cy a b (i + 1)) % 4294967296 = dg (a + b) i by unfold B at h2; omega, show ((dg (a + b) i : Int) + 4294967296 * cy a b (i + 1)) / 4294967296 = cy a b (i + 1) by unfold B at h2; omega] at h
  exact h
/-- one limb of a difference -/
theorem sub_c {a b : Nat} (hab : b ≤ a) (i : Nat) : Con Tryz.prog 93 [U (dg a i), U (dg b i), U (bw a b i)] (.tp [U (dg (a - b) i), U (bw a b (i + 1))]) := by
  have h1 := bw_step hab i
  have h2 := dg_bd (a - b) i
  have h3 := bw_le a b i
  have h4 := bw_le a b (i + 1)
  have h := Sub32_c (dg a i) (dg b i) (bw a b i) (dg_lt a i) (dg_lt b i) h3
  rw [show ((dg a i : Int) - dg b i - bw a b i) % 4294967296 = dg (a - b) i by omega] at h
  have e : (if (dg a i : Int) < dg b i + bw a b i then (1 : Int) else 0) = bw a b (i + 1) := by split <;> omega
  rw [e] at h
  exact h

/-! limbs.Sum -/
theorem Sum_c (a b : List Int) (ha : wf a) (hb : wf b) (hla : a.length < 4294967296) (hlb : b.length < 4294967296) : Con Tryz.prog 44 [Li a, Li b] (FLi (padd (max a.length b.length + 1) (val a + val b))) := by
  refine con_of Tryz.func44 rfl rfl rfl rfl rfl ?_
  by_cases h : (a.length : Int) < b.length
  · rw [show max a.length b.length = b.length by omega, Nat.add_comm (val a)]
    repeat (first | refine seq_ ?_ | refine region_ ?_ | refine nil_ ?_ | refine cond_t rfl ?_ | refine stepY (y_move rfl) rfl ?_ | refine stepY (y_assign rfl) rfl ?_ | refine stepY (y_len_si rfl) rfl ?_ | refine stepY (y_binn rfl rfl rfl (by simp only [InK, loK, hiK]; omega)) rfl ?_ | refine stepY (y_cmpT rfl rfl rfl (by omega)) rfl ?_)
    refine stepE (e_make rfl rfl (by omega) (by omega) rfl rfl) ?_
    repeat (first | refine seq_ ?_ | refine region_ ?_ | refine nil_ ?_ | refine block_ ?_ | refine stepY (y_move rfl) rfl ?_ | refine stepY (y_assign rfl) rfl ?_ | refine stepY (y_len_si rfl) rfl ?_)
    have hm : (((b).length : Int) + 1).toNat = (b).length + 1 := by omega
    rw [hm, ← pz_zero ((b).length + 1) (val b + val a)]
    refine loop_ (α := Nat) (fun k => ([(0, .p (Li b)), (1, .p (Li a)), (5, .vec 18), (6, .p (U (cy (val b) (val a) k))), (20, .p (I (b).length)), (21, .p (I k))], [(18, .vi 65 .u32 (pz k ((b).length + 1) (val b + val a)))])) (fun k => k ≤ (b).length) (fun k => (b).length - k) 0 (Nat.zero_le _) ?_ ?_ ?_
    · rw [cy_zero]; (repeat (first | exact sub_nil | refine sub_cons rfl ?_))
    · (repeat (first | exact subH_nil | refine subH_cons rfl ?_))
    intro k hk
    have hl : (pz k ((b).length + 1) (val b + val a)).length = (b).length + 1 := pz_length (by omega)
    by_cases hlt : k < (b).length
    · repeat (first | refine seq_ ?_ | refine region_ ?_ | refine nil_ ?_ | refine skip_ ?_ | refine block_ ?_ | refine cond_t rfl ?_ | refine stepY (y_move rfl) rfl ?_ | refine stepY (y_assign rfl) rfl ?_ | refine stepY (y_cmpT rfl rfl rfl (by omega)) rfl ?_)
      refine draw_ [(0, true), (1, true), (2, true), (3, true), (4, true), (5, true), (6, true), (7, true), (9, true), (8, false), (10, false), (11, true), (12, true), (13, true), (14, true), (15, false), (16, true)] 1000 [] mixed (by kernel_rfl) rfl ?_
      ((refine dY rfl (y_move rfl) rfl rfl rfl rfl ?_); refine dY rfl (y_move rfl) rfl rfl rfl rfl ?_; refine dY rfl (y_move rfl) rfl rfl rfl rfl ?_; refine dY rfl (y_move rfl) rfl rfl rfl rfl ?_; refine dY rfl (y_index_si rfl rfl (by omega) (by omega)) rfl rfl rfl rfl ?_; refine dY rfl (y_load_rc1 rfl rfl) rfl rfl rfl rfl ?_; refine dY rfl (y_move rfl) rfl rfl rfl rfl ?_; refine dY rfl (y_move rfl) rfl rfl rfl rfl ?_; refine dY rfl (y_move rfl) rfl rfl rfl rfl ?_)
      refine dC rfl Tryz.func73 rfl rfl (limb_c a k (by omega)) rfl (by repeat (first | exact .refl _ | apply Les.cons | exact .nil)) rfl rfl ?_
      skip
      rw [rd_dgk hb k, rd_dgk ha k]
      refine dC rfl Tryz.func72 rfl rfl (add_c (val b) (val a) k) rfl (by repeat (first | exact .refl _ | apply Les.cons | exact .nil)) rfl rfl ?_
      ((refine dY rfl (y_move rfl) rfl rfl rfl rfl ?_); refine dY rfl (y_extract rfl rfl) rfl rfl rfl rfl ?_; refine dY rfl (y_extract rfl rfl) rfl rfl rfl rfl ?_; refine dY rfl (y_index_vi rfl rfl rfl (by omega) (by omega)) rfl rfl rfl rfl ?_; (refine dE rfl (e_store_vi rfl rfl rfl (by omega) (by omega)) rfl rfl ?_); refine dY rfl (y_assign rfl) rfl rfl rfl rfl ?_; refine dEnd ?_)
      repeat (first | refine region_ ?_ | refine nil_ ?_ | refine stepY (y_move rfl) rfl ?_ | refine stepY (y_binn rfl rfl rfl (by simp only [InK, loK, hiK]; omega)) rfl ?_)
      rw [Int.toNat_natCast, pz_set (by omega)]
      refine ⟨k + 1, by omega, by omega, ?_, ?_⟩ <;> (repeat (first | exact sub_nil | exact subH_nil | refine sub_cons rfl ?_ | refine subH_cons rfl ?_))
    · obtain rfl : k = (b).length := by omega
      repeat (first | refine seq_ ?_ | refine region_ ?_ | refine nil_ ?_ | refine exit_ ?_ | refine ret_ ?_ | refine cond_f rfl ?_ | refine stepY (y_move rfl) rfl ?_ | refine stepY (y_assign rfl) rfl ?_ | refine stepY (y_len_si rfl) rfl ?_ | refine stepY (y_index_vi rfl rfl rfl (by omega) (by omega)) rfl ?_ | refine stepY (y_cmpF rfl rfl rfl (by omega)) rfl ?_ | refine stepE (e_store_vi rfl rfl rfl (by omega) (by omega)) ?_)
      rw [cy_top (val_lt hb) (Nat.lt_of_lt_of_le (val_lt ha) (Nat.pow_le_pow_right B_pos (show (a).length ≤ (b).length by omega))), Int.toNat_natCast, pz_set (by omega), pz_full]
      ((apply fin_r); (repeat (first | exact .nil | exact .vi rfl rfl rfl | apply ResL.cons)); (repeat (exact .refl _)))
  · rw [show max a.length b.length = a.length by omega]
    repeat (first | refine seq_ ?_ | refine region_ ?_ | refine nil_ ?_ | refine skip_ ?_ | refine cond_f rfl ?_ | refine stepY (y_move rfl) rfl ?_ | refine stepY (y_assign rfl) rfl ?_ | refine stepY (y_len_si rfl) rfl ?_ | refine stepY (y_binn rfl rfl rfl (by simp only [InK, loK, hiK]; omega)) rfl ?_ | refine stepY (y_cmpF rfl rfl rfl (by omega)) rfl ?_)
    refine stepE (e_make rfl rfl (by omega) (by omega) rfl rfl) ?_
    repeat (first | refine seq_ ?_ | refine region_ ?_ | refine nil_ ?_ | refine block_ ?_ | refine stepY (y_move rfl) rfl ?_ | refine stepY (y_assign rfl) rfl ?_ | refine stepY (y_len_si rfl) rfl ?_)
    have hm : (((a).length : Int) + 1).toNat = (a).length + 1 := by omega
    rw [hm, ← pz_zero ((a).length + 1) (val a + val b)]
    refine loop_ (α := Nat) (fun k => ([(0, .p (Li a)), (1, .p (Li b)), (5, .vec 18), (6, .p (U (cy (val a) (val b) k))), (20, .p (I (a).length)), (21, .p (I k))], [(18, .vi 65 .u32 (pz k ((a).length + 1) (val a + val b)))])) (fun k => k ≤ (a).length) (fun k => (a).length - k) 0 (Nat.zero_le _) ?_ ?_ ?_
    · rw [cy_zero]; (repeat (first | exact sub_nil | refine sub_cons rfl ?_))
    · (repeat (first | exact subH_nil | refine subH_cons rfl ?_))
    intro k hk
    have hl : (pz k ((a).length + 1) (val a + val b)).length = (a).length + 1 := pz_length (by omega)
    by_cases hlt : k < (a).length
    · repeat (first | refine seq_ ?_ | refine region_ ?_ | refine nil_ ?_ | refine skip_ ?_ | refine block_ ?_ | refine cond_t rfl ?_ | refine stepY (y_move rfl) rfl ?_ | refine stepY (y_assign rfl) rfl ?_ | refine stepY (y_cmpT rfl rfl rfl (by omega)) rfl ?_)
      refine draw_ [(0, true), (1, true), (2, true), (3, true), (4, true), (5, true), (6, true), (7, true), (9, true), (8, false), (10, false), (11, true), (12, true), (13, true), (14, true), (15, false), (16, true)] 1000 [] mixed (by kernel_rfl) rfl ?_
      ((refine dY rfl (y_move rfl) rfl rfl rfl rfl ?_); refine dY rfl (y_move rfl) rfl rfl rfl rfl ?_; refine dY rfl (y_move rfl) rfl rfl rfl rfl ?_; refine dY rfl (y_move rfl) rfl rfl rfl rfl ?_; refine dY rfl (y_index_si rfl rfl (by omega) (by omega)) rfl rfl rfl rfl ?_; refine dY rfl (y_load_rc1 rfl rfl) rfl rfl rfl rfl ?_; refine dY rfl (y_move rfl) rfl rfl rfl rfl ?_; refine dY rfl (y_move rfl) rfl rfl rfl rfl ?_; refine dY rfl (y_move rfl) rfl rfl rfl rfl ?_)
      refine dC rfl Tryz.func73 rfl rfl (limb_c b k (by omega)) rfl (by repeat (first | exact .refl _ | apply Les.cons | exact .nil)) rfl rfl ?_
      skip
      rw [rd_dgk ha k, rd_dgk hb k]
      refine dC rfl Tryz.func72 rfl rfl (add_c (val a) (val b) k) rfl (by repeat (first | exact .refl _ | apply Les.cons | exact .nil)) rfl rfl ?_
      ((refine dY rfl (y_move rfl) rfl rfl rfl rfl ?_); refine dY rfl (y_extract rfl rfl) rfl rfl rfl rfl ?_; refine dY rfl (y_extract rfl rfl) rfl rfl rfl rfl ?_; refine dY rfl (y_index_vi rfl rfl rfl (by omega) (by omega)) rfl rfl rfl rfl ?_; (refine dE rfl (e_store_vi rfl rfl rfl (by omega) (by omega)) rfl rfl ?_); refine dY rfl (y_assign rfl) rfl rfl rfl rfl ?_; refine dEnd ?_)
      repeat (first | refine region_ ?_ | refine nil_ ?_ | refine stepY (y_move rfl) rfl ?_ | refine stepY (y_binn rfl rfl rfl (by simp only [InK, loK, hiK]; omega)) rfl ?_)
      rw [Int.toNat_natCast, pz_set (by omega)]
      refine ⟨k + 1, by omega, by omega, ?_, ?_⟩ <;> (repeat (first | exact sub_nil | exact subH_nil | refine sub_cons rfl ?_ | refine subH_cons rfl ?_))
    · obtain rfl : k = (a).length := by omega
      repeat (first | refine seq_ ?_ | refine region_ ?_ | refine nil_ ?_ | refine exit_ ?_ | refine ret_ ?_ | refine cond_f rfl ?_ | refine stepY (y_move rfl) rfl ?_ | refine stepY (y_assign rfl) rfl ?_ | refine stepY (y_len_si rfl) rfl ?_ | refine stepY (y_index_vi rfl rfl rfl (by omega) (by omega)) rfl ?_ | refine stepY (y_cmpF rfl rfl rfl (by omega)) rfl ?_ | refine stepE (e_store_vi rfl rfl rfl (by omega) (by omega)) ?_)
      rw [cy_top (val_lt ha) (Nat.lt_of_lt_of_le (val_lt hb) (Nat.pow_le_pow_right B_pos (show (b).length ≤ (a).length by omega))), Int.toNat_natCast, pz_set (by omega), pz_full]
      ((apply fin_r); (repeat (first | exact .nil | exact .vi rfl rfl rfl | apply ResL.cons)); (repeat (exact .refl _)))
end Go.Av

/-! Plain arithmetic of limbs: order, products, short division. -/
set_option linter.unusedVariables false
namespace Go.Av
/-- the order of two numbers -/
def sg (a b : Nat) : Int := if a < b then -1 else if b < a then 1 else 0
theorem div_split (n k : Nat) : n / B ^ k = B * (n / B ^ (k + 1)) + dg n k := by
  rw [Nat.pow_succ, ← Nat.div_div_eq_div_mul]
  have := Nat.div_add_mod (n / B ^ k) B
  unfold dg; omega
theorem lt_of_div {a b p : Nat} (h : a / p < b / p) : a < b := by
  rcases Nat.lt_or_ge a b with h1 | h1
  · exact h1
  · have := Nat.div_le_div_right (c := p) h1; omega
theorem top_lt {a b k : Nat} (h : a / B ^ (k + 1) = b / B ^ (k + 1)) (h1 : dg a k < dg b k) : a < b := by
  refine lt_of_div (p := B ^ k) ?_
  rw [div_split, div_split b, h]; omega
theorem ln_lt {a b : Nat} (h : ln a < ln b) : a < b := by
  rcases Nat.lt_or_ge a b with h1 | h1
  · exact h1
  · have := ln_mono h1; omega
theorem sg_lt {a b : Nat} (h : a < b) : sg a b = -1 := by simp [sg, h]
theorem sg_gt {a b : Nat} (h : b < a) : sg a b = 1 := by simp [sg, h]; omega
theorem sg_eq (a : Nat) : sg a a = 0 := by simp [sg]

/-! lists that are written from above -/
def dz (k m n : Nat) : List Int := List.replicate k 0 ++ (padd m n).drop k
theorem dz_length {k m n : Nat} (h : k ≤ m) : (dz k m n).length = m := by simp [dz]; omega
theorem dz_full (m n : Nat) : dz m m n = List.replicate m 0 := by simp [dz]
theorem dz_zero (m n : Nat) : dz 0 m n = padd m n := by simp [dz]
theorem padd_get {k n i : Nat} (h : i < k) : (padd k n)[i]? = some ((dg n i : Nat) : Int) := by simp [padd, h]
theorem dz_set {k m n : Nat} (h : k < m) : (dz (k + 1) m n).set k ((dg n k : Nat) : Int) = dz k m n := by
  unfold dz
  rw [List.replicate_succ', List.append_assoc, List.set_append_right _ _ (by simp)]
  have : (padd m n).drop k = ((dg n k : Nat) : Int) :: (padd m n).drop (k + 1) := by
    have h1 := padd_get (n := n) h
    rw [List.getElem?_eq_some_iff] at h1
    obtain ⟨h2, h3⟩ := h1
    rw [List.drop_eq_getElem_cons h2, h3]
  rw [this]; simp

theorem short_step {a d k : Nat} (hd : 0 < d) (hb : d ≤ B) : (a / B ^ (k + 1) % d * B + dg a k) / d = dg (a / d) k ∧ (a / B ^ (k + 1) % d * B + dg a k) % d = a / B ^ k % d := by
  have h0 := div_split a k
  have h1 := Nat.div_add_mod (a / B ^ (k + 1)) d
  have h2 := Nat.mod_lt (a / B ^ (k + 1)) hd
  have h3 := dg_lt a k
  generalize a / B ^ (k + 1) / d = q at *
  generalize a / B ^ (k + 1) % d = r at *
  have h4 : r * B + dg a k < d * B := by
    have : (r + 1) * B ≤ d * B := Nat.mul_le_mul_right _ h2
    rw [Nat.succ_mul] at this; omega
  have h5 : a / B ^ k = d * (B * q) + (r * B + dg a k) := by
    rw [h0, ← h1, Nat.mul_add, Nat.mul_left_comm, Nat.mul_comm B r, Nat.add_assoc]
  constructor
  · have e : dg (a / d) k = a / d / B ^ k % B := rfl
    have h6 : (r * B + dg a k) / d < B := by rw [Nat.div_lt_iff_lt_mul hd, Nat.mul_comm B]; exact h4
    rw [e, Nat.div_div_eq_div_mul, Nat.mul_comm d, ← Nat.div_div_eq_div_mul, h5, Nat.mul_add_div hd, Nat.mul_add_mod, Nat.mod_eq_of_lt h6]
  · rw [h5, Nat.mul_add_mod]

/-! products -/
theorem val_set : ∀ {l : List Int} {i : Nat} {x : Int}, i < l.length → val (l.set i x) + B ^ i * (l.getD i 0).toNat = val l + B ^ i * x.toNat
  | y :: l, 0, x, _ => by simp [val]; omega
  | y :: l, i + 1, x, h => by
    have ih := val_set (l := l) (i := i) (x := x) (by simpa using h)
    simp only [List.set_cons_succ, val, List.getD_cons_succ, Nat.pow_succ]
    have := congrArg (B * ·) ih
    simp only [Nat.mul_add] at this
    rw [Nat.mul_comm (B ^ i) B, Nat.mul_assoc, Nat.mul_assoc]
    omega
theorem wf_set {l : List Int} (h : wf l) {i : Nat} {x : Int} (hx : 0 ≤ x ∧ x < 4294967296) : wf (l.set i x) := by
  intro y hy
  rcases List.mem_or_eq_of_mem_set hy with h1 | rfl
  · exact h y h1
  · exact hx
theorem wf_zero (n : Nat) : wf (List.replicate n 0) := by
  intro x hx; rw [List.mem_replicate] at hx; omega
theorem val_zero (n : Nat) : val (List.replicate n 0) = 0 := by
  induction n with
  | zero => rfl
  | succ n ih => simp [List.replicate_succ, val, ih]
/-- the state of a product's inner loop -/
structure PS (A V m i k : Nat) (o : List Int) (c : Nat) (lb : Nat) : Prop where
  w : wf o
  l : o.length = m
  z : ∀ j, i + lb ≤ j → o.getD j 0 = 0
  e : val o + B ^ (i + k) * c = (A % B ^ i) * V + B ^ i * (dg A i * (V % B ^ k))
  c : c < B
theorem PS.lim {A V m i k : Nat} {o : List Int} {c lb : Nat} (h : PS A V m i k o c lb) (hk : i + k < m) : dg A i * dg V k + (o.getD (i + k) 0).toNat + c < 18446744073709551616 ∧ 0 ≤ o.getD (i + k) 0 ∧ o.getD (i + k) 0 < 4294967296 := by
  have h1 := dg_lt A i
  have h2 := dg_lt V k
  have h3 := h.c
  have h5 : 0 ≤ o.getD (i + k) 0 ∧ o.getD (i + k) 0 < 4294967296 := by
    rw [List.getD_eq_getElem?_getD, List.getElem?_eq_getElem (by rw [h.l]; exact hk)]
    exact h.w _ (List.getElem_mem _)
  have h4 : dg A i * dg V k ≤ 4294967295 * 4294967295 := Nat.mul_le_mul (by unfold B at *; omega) (by unfold B at *; omega)
  unfold B at *
  omega
theorem PS.step {A V m i k : Nat} {o : List Int} {c lb s : Nat} (h : PS A V m i k o c lb) (hk : k < lb) (hm : i + lb ≤ m) (hs : s = dg A i * dg V k + (o.getD (i + k) 0).toNat + c) :
    PS A V m i (k + 1) (o.set (i + k) ((s % B : Nat) : Int)) (s / B) lb := by
  have hl := h.lim (by omega)
  rw [← hs] at hl
  refine ⟨wf_set h.w ?_, by simpa using h.l, fun j hj => ?_, ?_, ?_⟩
  · have := Nat.mod_lt s B_pos; unfold B at this ⊢; omega
  · have := h.z j hj
    rw [List.getD_eq_getElem?_getD] at this ⊢
    rwa [List.getElem?_set_ne (by omega)]
  · have h1 := val_set (l := o) (i := i + k) (x := ((s % B : Nat) : Int)) (by rw [h.l]; omega)
    have h2 := h.e
    have h3 := Nat.div_add_mod s B
    rw [Int.toNat_natCast] at h1
    rw [mod_succ, Nat.mul_add, Nat.mul_add, ← Nat.add_assoc i k 1, ← Nat.add_assoc (A % B ^ i * V), ← h2, Nat.pow_succ, Nat.mul_assoc]
    have h4 : B ^ i * (dg A i * (B ^ k * dg V k)) = B ^ (i + k) * (dg A i * dg V k) := by
      rw [Nat.pow_add, Nat.mul_assoc, Nat.mul_left_comm (dg A i)]
    rw [h4]
    have h5 : B ^ (i + k) * s = B ^ (i + k) * (dg A i * dg V k) + B ^ (i + k) * (o.getD (i + k) 0).toNat + B ^ (i + k) * c := by rw [hs, Nat.mul_add, Nat.mul_add]
    have h6 : B ^ (i + k) * s = B ^ (i + k) * (B * (s / B)) + B ^ (i + k) * (s % B) := by rw [← Nat.mul_add, h3]
    omega
  · have := hl.1
    have h3 := Nat.div_add_mod s B
    unfold B at *; omega
theorem PS.last {A V m i : Nat} {o : List Int} {c lb : Nat} (h : PS A V m i lb o c lb) (hV : V < B ^ lb) (hm : i + lb < m) :
    wf (o.set (i + lb) ((c : Nat) : Int)) ∧ (o.set (i + lb) ((c : Nat) : Int)).length = m ∧ val (o.set (i + lb) ((c : Nat) : Int)) = (A % B ^ (i + 1)) * V := by
  refine ⟨wf_set h.w ?_, by simpa using h.l, ?_⟩
  · have := h.c; unfold B at this; omega
  · have h1 := val_set (l := o) (i := i + lb) (x := ((c : Nat) : Int)) (by rw [h.l]; omega)
    have h2 := h.e
    have h3 := h.z (i + lb) (Nat.le_refl _)
    rw [h3, Int.toNat_natCast] at h1
    rw [Nat.mod_eq_of_lt hV] at h2
    rw [mod_succ, Nat.add_mul, Nat.mul_assoc]
    simp at h1
    omega
theorem PS.first {A V m i : Nat} {o : List Int} {lb : Nat} (hw : wf o) (hl : o.length = m) (hv : val o = (A % B ^ i) * V) (hV : V < B ^ lb) : PS A V m i 0 o 0 lb := by
  refine ⟨hw, hl, fun j hj => ?_, by simp [hv, Nat.mod_one], B_pos⟩
  have h1 := rd_wf hw (i := (j : Int)) (by omega)
  rw [Int.toNat_natCast] at h1
  rw [h1, dg_big]
  · rfl
  · rw [ln_le, hv]
    refine Nat.lt_of_lt_of_le (m := B ^ i * B ^ lb) ?_ ?_
    · exact Nat.mul_lt_mul_of_lt_of_le (Nat.mod_lt _ (Bp_pos i)) (Nat.le_of_lt hV) (Bp_pos lb)
    · rw [← Nat.pow_add]; exact Nat.pow_le_pow_right B_pos hj
end Go.Av

set_option maxHeartbeats 4000000
set_option linter.unusedVariables false
set_option linter.unusedSimpArgs false
namespace Go.Av
open Go Go.Proofs

/-! limbs.Difference -/
theorem Difference_c (a b : List Int) (ha : wf a) (hb : wf b) (hla : a.length < 4294967296) (hab : val b ≤ val a) : Con Tryz.prog 66 [Li a, Li b] (M (val a - val b)) := by
  refine con_of Tryz.func66 rfl rfl rfl rfl rfl ?_
  repeat (first | refine seq_ ?_ | refine region_ ?_ | refine nil_ ?_ | refine stepY (y_move rfl) rfl ?_ | refine stepY (y_assign rfl) rfl ?_ | refine stepY (y_len_si rfl) rfl ?_)
  refine stepE (e_make rfl rfl (by omega) (by omega) rfl rfl) ?_
  repeat (first | refine seq_ ?_ | refine region_ ?_ | refine nil_ ?_ | refine block_ ?_ | refine stepY (y_move rfl) rfl ?_ | refine stepY (y_assign rfl) rfl ?_ | refine stepY (y_len_si rfl) rfl ?_)
  rw [show ((a.length : Int)).toNat = a.length by omega, ← pz_zero a.length (val a - val b)]
  refine loop_ (α := Nat) (fun k => ([(0, .p (Li a)), (1, .p (Li b)), (5, .vec 10), (6, .p (U (bw (val a) (val b) k))), (12, .p (I a.length)), (13, .p (I k))], [(10, .vi 65 .u32 (pz k a.length (val a - val b)))])) (fun k => k ≤ a.length) (fun k => a.length - k) 0 (Nat.zero_le _) ?_ ?_ ?_
  · rw [bw_zero]; (repeat (first | exact sub_nil | refine sub_cons rfl ?_))
  · (repeat (first | exact subH_nil | refine subH_cons rfl ?_))
  intro k hk
  have hl : (pz k a.length (val a - val b)).length = a.length := pz_length hk
  by_cases hlt : k < a.length
  · repeat (first | refine seq_ ?_ | refine region_ ?_ | refine nil_ ?_ | refine skip_ ?_ | refine block_ ?_ | refine cond_t rfl ?_ | refine stepY (y_move rfl) rfl ?_ | refine stepY (y_assign rfl) rfl ?_ | refine stepY (y_cmpT rfl rfl rfl (by omega)) rfl ?_)
    refine draw_ [(0, true), (1, true), (2, true), (3, true), (4, true), (5, true), (6, true), (7, true), (9, true), (8, false), (10, false), (11, true), (12, true), (13, true), (14, true), (15, false), (16, true)] 1000 [] mixed (by kernel_rfl) rfl ?_
    ((refine dY rfl (y_move rfl) rfl rfl rfl rfl ?_); refine dY rfl (y_move rfl) rfl rfl rfl rfl ?_; refine dY rfl (y_move rfl) rfl rfl rfl rfl ?_; refine dY rfl (y_move rfl) rfl rfl rfl rfl ?_; refine dY rfl (y_index_si rfl rfl (by omega) (by omega)) rfl rfl rfl rfl ?_; refine dY rfl (y_load_rc1 rfl rfl) rfl rfl rfl rfl ?_; refine dY rfl (y_move rfl) rfl rfl rfl rfl ?_; refine dY rfl (y_move rfl) rfl rfl rfl rfl ?_; refine dY rfl (y_move rfl) rfl rfl rfl rfl ?_)
    refine dC rfl Tryz.func73 rfl rfl (limb_c b k (by omega)) rfl (by repeat (first | exact .refl _ | apply Les.cons | exact .nil)) rfl rfl ?_
    skip
    rw [rd_dgk ha k, rd_dgk hb k]
    refine dC rfl Tryz.func93 rfl rfl (sub_c hab k) rfl (by repeat (first | exact .refl _ | apply Les.cons | exact .nil)) rfl rfl ?_
    ((refine dY rfl (y_move rfl) rfl rfl rfl rfl ?_); refine dY rfl (y_extract rfl rfl) rfl rfl rfl rfl ?_; refine dY rfl (y_extract rfl rfl) rfl rfl rfl rfl ?_; refine dY rfl (y_index_vi rfl rfl rfl (by omega) (by omega)) rfl rfl rfl rfl ?_; (refine dE rfl (e_store_vi rfl rfl rfl (by omega) (by omega)) rfl rfl ?_); refine dY rfl (y_assign rfl) rfl rfl rfl rfl ?_; refine dEnd ?_)
    repeat (first | refine region_ ?_ | refine nil_ ?_ | refine stepY (y_move rfl) rfl ?_ | refine stepY (y_binn rfl rfl rfl (by simp only [InK, loK, hiK]; omega)) rfl ?_)
    rw [Int.toNat_natCast, pz_set (by omega)]
    refine ⟨k + 1, by omega, by omega, ?_, ?_⟩ <;> (repeat (first | exact sub_nil | exact subH_nil | refine sub_cons rfl ?_ | refine subH_cons rfl ?_))
  · obtain rfl : k = a.length := by omega
    repeat (first | refine seq_ ?_ | refine region_ ?_ | refine nil_ ?_ | refine exit_ ?_ | refine cond_f rfl ?_ | refine stepY (y_move rfl) rfl ?_ | refine stepY (y_cmpF rfl rfl rfl (by omega)) rfl ?_)
    refine seal_L (i := 32) (h := 10) rfl rfl rfl rfl ?_
    rw [pz_full]
    have hv := Trim_c (padd a.length (val a - val b)) (wf_padd _ _)
    rw [val_padd, Nat.mod_eq_of_lt (Nat.lt_of_le_of_lt (Nat.sub_le _ _) (val_lt ha))] at hv
    refine call_ Tryz.func43 rfl rfl hv rfl (by repeat (first | exact .tag _ _ | apply Les.cons | exact .nil)) rfl ?_
    repeat (first | refine nil_ ?_ | refine ret_ ?_ | refine stepY (y_assign rfl) rfl ?_)
    ((apply fin_r); (repeat (first | exact .nil | exact .tmp rfl | apply ResL.cons)); (repeat (exact .refl _)))

/-! limbs.Compare -/
theorem Compare_c (a b : Nat) : Con Tryz.prog 42 [M a, M b] (I (sg a b)) := by
  refine con_of Tryz.func42 rfl rfl rfl rfl rfl ?_
  refine len_C (i := 0) rfl (fun hL => ?_)
  refine len_C (i := 1) rfl (fun hL' => ?_)
  have la : ((limbs a).length : Int) = ln a := by rw [limbs_length]
  have lb : ((limbs b).length : Int) = ln b := by rw [limbs_length]
  rw [limbs_length] at hL hL'
  by_cases h : ((limbs a).length : Int) = (limbs b).length
  · repeat (first | refine seq_ ?_ | refine region_ ?_ | refine nil_ ?_ | refine skip_ ?_ | refine block_ ?_ | refine cond_f rfl ?_ | refine stepY (y_move rfl) rfl ?_ | refine stepY (y_assign rfl) rfl ?_ | refine stepY (y_len_si rfl) rfl ?_ | refine stepY (y_binn rfl rfl rfl (by simp only [InK, loK, hiK]; omega)) rfl ?_ | refine stepY (y_cmpF rfl rfl rfl (by omega)) rfl ?_)
    refine loop_ (α := Nat) (fun k => ([(0, .p (M a)), (1, .p (M b)), (5, .p (I ((k : Int) - 1)))], [])) (fun k => k ≤ ln a ∧ a / B ^ k = b / B ^ k) id (ln a) ⟨Nat.le_refl _, ?_⟩ ?_ ?_ ?_
    · rw [Nat.div_eq_of_lt (lt_ln a), Nat.div_eq_of_lt (by have := lt_ln b; rwa [show ln b = ln a by omega] at this)]
    · rw [la]; (repeat (first | exact sub_nil | refine sub_cons rfl ?_))
    · (repeat (exact subH_nil))
    intro k ⟨hk, he⟩
    by_cases h0 : k = 0
    · subst h0
      have hab : a = b := by simpa using he
      subst hab
      repeat (first | refine seq_ ?_ | refine region_ ?_ | refine nil_ ?_ | refine exit_ ?_ | refine ret_ ?_ | refine cond_f rfl ?_ | refine stepY (y_move rfl) rfl ?_ | refine stepY (y_assign rfl) rfl ?_ | refine stepY (y_cmpF rfl rfl rfl (by omega)) rfl ?_)
      rw [sg_eq]
      ((apply fin_r); (repeat (first | exact .nil | exact .tmp rfl | apply ResL.cons)); (repeat (exact .refl _)))
    · obtain ⟨j, rfl⟩ : ∃ j, k = j + 1 := ⟨k - 1, by omega⟩
      rw [show (((j + 1 : Nat) : Int) - 1) = (j : Int) by omega]
      have ra : rd (limbs a) (j : Int) = ((dg a j : Nat) : Int) := rd_limbs a (by omega)
      have rb : rd (limbs b) (j : Int) = ((dg b j : Nat) : Int) := rd_limbs b (by omega)
      by_cases h1 : dg a j = dg b j
      · repeat (first | refine seq_ ?_ | refine region_ ?_ | refine nil_ ?_ | refine skip_ ?_ | refine block_ ?_ | refine cond_t rfl ?_ | refine stepY (y_move rfl) rfl ?_ | refine stepY (y_cmpT rfl rfl rfl (by omega)) rfl ?_)
        refine draw_ [(0, true), (1, true), (2, true), (3, true), (4, true), (5, true), (6, true), (7, true), (8, true)] 1000 [] mixed (by kernel_rfl) rfl ?_
        ((refine dY rfl (y_move rfl) rfl rfl rfl rfl ?_); refine dY rfl (y_move rfl) rfl rfl rfl rfl ?_; refine dY rfl (y_index_si rfl rfl (by omega) (by omega)) rfl rfl rfl rfl ?_; refine dY rfl (y_load_rc1 rfl rfl) rfl rfl rfl rfl ?_; refine dY rfl (y_move rfl) rfl rfl rfl rfl ?_; refine dY rfl (y_move rfl) rfl rfl rfl rfl ?_; refine dY rfl (y_index_si rfl rfl (by omega) (by omega)) rfl rfl rfl rfl ?_; refine dY rfl (y_load_rc1 rfl rfl) rfl rfl rfl rfl ?_; refine dY rfl (y_cmpF rfl rfl rfl (by omega)) rfl rfl rfl rfl ?_; refine dEnd ?_)
        repeat (first | refine region_ ?_ | refine nil_ ?_ | refine skip_ ?_ | refine cond_f rfl ?_ | refine stepY (y_move rfl) rfl ?_ | refine stepY (y_assign rfl) rfl ?_ | refine stepY (y_binn rfl rfl rfl (by simp only [InK, loK, hiK]; omega)) rfl ?_)
        refine ⟨j, ⟨by omega, ?_⟩, by simp only [id]; omega, ?_, ?_⟩
        · rw [div_split, div_split b, he, h1]
        · (repeat (first | exact sub_nil | refine sub_cons rfl ?_))
        · (repeat (exact subH_nil))
      · by_cases h2 : dg a j < dg b j
        · repeat (first | refine seq_ ?_ | refine region_ ?_ | refine nil_ ?_ | refine skip_ ?_ | refine block_ ?_ | refine cond_t rfl ?_ | refine stepY (y_move rfl) rfl ?_ | refine stepY (y_cmpT rfl rfl rfl (by omega)) rfl ?_)
          refine draw_ [(0, true), (1, true), (2, true), (3, true), (4, true), (5, true), (6, true), (7, true), (8, true)] 1000 [] mixed (by kernel_rfl) rfl ?_
          ((refine dY rfl (y_move rfl) rfl rfl rfl rfl ?_); refine dY rfl (y_move rfl) rfl rfl rfl rfl ?_; refine dY rfl (y_index_si rfl rfl (by omega) (by omega)) rfl rfl rfl rfl ?_; refine dY rfl (y_load_rc1 rfl rfl) rfl rfl rfl rfl ?_; refine dY rfl (y_move rfl) rfl rfl rfl rfl ?_; refine dY rfl (y_move rfl) rfl rfl rfl rfl ?_; refine dY rfl (y_index_si rfl rfl (by omega) (by omega)) rfl rfl rfl rfl ?_; refine dY rfl (y_load_rc1 rfl rfl) rfl rfl rfl rfl ?_; refine dY rfl (y_cmpT rfl rfl rfl (by omega)) rfl rfl rfl rfl ?_; refine dEnd ?_)
          repeat (first | refine seq_ ?_ | refine cond_t rfl ?_)
          refine draw_ [(0, true), (1, true), (2, true), (3, true), (4, true), (5, true), (6, true), (7, true), (8, true)] 1000 [] mixed (by kernel_rfl) rfl ?_
          ((refine dY rfl (y_move rfl) rfl rfl rfl rfl ?_); refine dY rfl (y_move rfl) rfl rfl rfl rfl ?_; refine dY rfl (y_index_si rfl rfl (by omega) (by omega)) rfl rfl rfl rfl ?_; refine dY rfl (y_load_rc1 rfl rfl) rfl rfl rfl rfl ?_; refine dY rfl (y_move rfl) rfl rfl rfl rfl ?_; refine dY rfl (y_move rfl) rfl rfl rfl rfl ?_; refine dY rfl (y_index_si rfl rfl (by omega) (by omega)) rfl rfl rfl rfl ?_; refine dY rfl (y_load_rc1 rfl rfl) rfl rfl rfl rfl ?_; refine dY rfl (y_cmpT rfl rfl rfl (by omega)) rfl rfl rfl rfl ?_; refine dEnd ?_)
          repeat (first | refine seq_ ?_ | refine region_ ?_ | refine nil_ ?_ | refine ret_ ?_ | refine cond_t rfl ?_ | refine stepY (y_assign rfl) rfl ?_)
          rw [sg_lt (top_lt he h2)]
          ((apply fin_r); (repeat (first | exact .nil | exact .tmp rfl | apply ResL.cons)); (repeat (exact .refl _)))
        · repeat (first | refine seq_ ?_ | refine region_ ?_ | refine nil_ ?_ | refine skip_ ?_ | refine block_ ?_ | refine cond_t rfl ?_ | refine stepY (y_move rfl) rfl ?_ | refine stepY (y_cmpT rfl rfl rfl (by omega)) rfl ?_)
          refine draw_ [(0, true), (1, true), (2, true), (3, true), (4, true), (5, true), (6, true), (7, true), (8, true)] 1000 [] mixed (by kernel_rfl) rfl ?_
          ((refine dY rfl (y_move rfl) rfl rfl rfl rfl ?_); refine dY rfl (y_move rfl) rfl rfl rfl rfl ?_; refine dY rfl (y_index_si rfl rfl (by omega) (by omega)) rfl rfl rfl rfl ?_; refine dY rfl (y_load_rc1 rfl rfl) rfl rfl rfl rfl ?_; refine dY rfl (y_move rfl) rfl rfl rfl rfl ?_; refine dY rfl (y_move rfl) rfl rfl rfl rfl ?_; refine dY rfl (y_index_si rfl rfl (by omega) (by omega)) rfl rfl rfl rfl ?_; refine dY rfl (y_load_rc1 rfl rfl) rfl rfl rfl rfl ?_; refine dY rfl (y_cmpT rfl rfl rfl (by omega)) rfl rfl rfl rfl ?_; refine dEnd ?_)
          repeat (first | refine seq_ ?_ | refine cond_t rfl ?_)
          refine draw_ [(0, true), (1, true), (2, true), (3, true), (4, true), (5, true), (6, true), (7, true), (8, true)] 1000 [] mixed (by kernel_rfl) rfl ?_
          ((refine dY rfl (y_move rfl) rfl rfl rfl rfl ?_); refine dY rfl (y_move rfl) rfl rfl rfl rfl ?_; refine dY rfl (y_index_si rfl rfl (by omega) (by omega)) rfl rfl rfl rfl ?_; refine dY rfl (y_load_rc1 rfl rfl) rfl rfl rfl rfl ?_; refine dY rfl (y_move rfl) rfl rfl rfl rfl ?_; refine dY rfl (y_move rfl) rfl rfl rfl rfl ?_; refine dY rfl (y_index_si rfl rfl (by omega) (by omega)) rfl rfl rfl rfl ?_; refine dY rfl (y_load_rc1 rfl rfl) rfl rfl rfl rfl ?_; refine dY rfl (y_cmpF rfl rfl rfl (by omega)) rfl rfl rfl rfl ?_; refine dEnd ?_)
          repeat (first | refine seq_ ?_ | refine region_ ?_ | refine nil_ ?_ | refine skip_ ?_ | refine ret_ ?_ | refine cond_f rfl ?_ | refine stepY (y_assign rfl) rfl ?_)
          rw [sg_gt (top_lt he.symm (by omega))]
          ((apply fin_r); (repeat (first | exact .nil | exact .tmp rfl | apply ResL.cons)); (repeat (exact .refl _)))
  · have hc : (ln a < ln b ∧ a < b) ∨ (ln b < ln a ∧ b < a) := by
      rcases Nat.lt_or_gt_of_ne (show ln a ≠ ln b by omega) with h1 | h1
      · exact .inl ⟨h1, ln_lt h1⟩
      · exact .inr ⟨h1, ln_lt h1⟩
    have e : ∀ d : Int, d = ((limbs a).length : Int) - (limbs b).length → (if (if -1 < d then d else -1) < 1 then (if -1 < d then d else -1) else 1) = sg a b := by
      intro d hd
      unfold sg
      repeat' split
      all_goals omega
    repeat (first | refine seq_ ?_ | refine region_ ?_ | refine nil_ ?_ | refine ret_ ?_ | refine cond_t rfl ?_ | refine stepY (y_move rfl) rfl ?_ | refine stepY (y_assign rfl) rfl ?_ | (first | refine stepY (y_len_si rfl) rfl ?_ | refine stepY (y_max rfl rfl) rfl ?_ | refine stepY (y_min rfl rfl) rfl ?_) | refine stepY (y_binn rfl rfl rfl (by simp only [InK, loK, hiK]; omega)) rfl ?_ | refine stepY (y_cmpT rfl rfl rfl (by omega)) rfl ?_)
    rw [e _ rfl]
    ((apply fin_r); (repeat (first | exact .nil | exact .tmp rfl | apply ResL.cons)); (repeat (exact .refl _)))
end Go.Av

set_option maxHeartbeats 4000000
set_option linter.unusedVariables false
set_option linter.unusedSimpArgs false
namespace Go.Av
open Go Go.Proofs

/-! limbs.Product -/
theorem Product_c (a b : List Int) (ha : wf a) (hb : wf b) (hla : a.length < 4294967296) (hlb : b.length < 4294967296) : Con Tryz.prog 65 [Li a, Li b] (M (val a * val b)) := by
  refine con_of Tryz.func65 rfl rfl rfl rfl rfl ?_
  repeat (first | refine seq_ ?_ | refine region_ ?_ | refine nil_ ?_ | refine stepY (y_move rfl) rfl ?_ | refine stepY (y_assign rfl) rfl ?_ | refine stepY (y_len_si rfl) rfl ?_ | refine stepY (y_binn rfl rfl rfl (by simp only [InK, loK, hiK]; omega)) rfl ?_)
  refine stepE (e_make rfl rfl (by omega) (by omega) rfl rfl) ?_
  repeat (first | refine seq_ ?_ | refine region_ ?_ | refine nil_ ?_ | refine block_ ?_ | refine stepY (y_move rfl) rfl ?_ | refine stepY (y_assign rfl) rfl ?_ | refine stepY (y_len_si rfl) rfl ?_)
  rw [show ((a.length : Int) + b.length).toNat = a.length + b.length by omega]
  refine loop_ (α := Nat × List Int) (fun y => ([(0, .p (Li a)), (1, .p (Li b)), (5, .vec 16), (17, .p (Li a)), (18, .p (I a.length)), (19, .p (I y.1))], [(16, .vi 65 .u32 y.2)])) (fun y => y.1 ≤ a.length ∧ wf y.2 ∧ y.2.length = a.length + b.length ∧ val y.2 = (val a % B ^ y.1) * val b) (fun y => a.length - y.1) (0, List.replicate (a.length + b.length) 0) ⟨Nat.zero_le _, wf_zero _, by simp, by simp [val_zero, Nat.mod_one]⟩ ?_ ?_ ?_
  · (repeat (first | exact sub_nil | refine sub_cons rfl ?_))
  · (repeat (first | exact subH_nil | refine subH_cons rfl ?_))
  intro ⟨i, o⟩ ⟨hi, hw, hlo, hv⟩
  dsimp only at hi hw hlo hv ⊢
  by_cases hlt : i < a.length
  · have ra := rd_dgk ha i
    have rb := dg_bd (val a) i
    repeat (first | refine seq_ ?_ | refine region_ ?_ | refine nil_ ?_ | refine skip_ ?_ | refine block_ ?_ | refine cond_t rfl ?_ | refine stepY (y_move rfl) rfl ?_ | refine stepY (y_assign rfl) rfl ?_ | refine stepY (y_load_rc1 rfl rfl) rfl ?_ | refine stepY (y_len_si rfl) rfl ?_ | refine stepY (y_index_si rfl rfl (by omega) (by omega)) rfl ?_ | refine stepY (y_cmpT rfl rfl rfl (by omega)) rfl ?_)
    rw [ra]
    refine loop_ (α := Nat × Nat × List Int) (fun y => ([(0, .p (Li a)), (1, .p (Li b)), (5, .vec 16), (17, .p (Li a)), (18, .p (I a.length)), (19, .p (I i)), (6, .p (I i)), (7, .p (U (dg (val a) i))), (8, .p (UU y.2.1)), (24, .p (Li b)), (25, .p (I b.length)), (26, .p (I y.1))], [(16, .vi 65 .u32 y.2.2)])) (fun y => y.1 ≤ b.length ∧ PS (val a) (val b) (a.length + b.length) i y.1 y.2.2 y.2.1 b.length) (fun y => b.length - y.1) (0, 0, o) ⟨Nat.zero_le _, PS.first hw hlo hv (val_lt hb)⟩ ?_ ?_ ?_
    · (repeat (first | exact sub_nil | refine sub_cons rfl ?_))
    · (repeat (first | exact subH_nil | refine subH_cons rfl ?_))
    intro ⟨k, c, q⟩ ⟨hk, hp⟩
    dsimp only at hk hp ⊢
    have hlq := hp.l
    by_cases hkl : k < b.length
    · have hs := hp.step (s := dg (val a) i * dg (val b) k + (q.getD (i + k) 0).toNat + c) hkl (by omega) rfl
      have hlim := hp.lim (by omega)
      have rk := rd_dgk hb k
      have rk' := dg_bd (val b) k
      have hc := hp.c
      have hrd : rd q ((i : Int) + k) = q.getD (i + k) 0 := by unfold rd; rw [show ((i : Int) + k).toNat = i + k by omega]
      have hm1 : (dg (val a) i : Int) * rd b k = ((dg (val a) i * dg (val b) k : Nat) : Int) := by rw [rk]; simp
      have hm2 : 0 ≤ rd b k ∧ rd b k < 4294967296 := by rw [rk]; exact rk'
      have hm3 : 0 ≤ rd q ((i : Int) + k) ∧ rd q ((i : Int) + k) < 4294967296 := by rw [hrd]; exact hlim.2
      generalize hP : dg (val a) i * dg (val b) k = p at *
      repeat (first | refine seq_ ?_ | refine region_ ?_ | refine nil_ ?_ | refine skip_ ?_ | refine block_ ?_ | refine cond_t rfl ?_ | refine stepY (y_move rfl) rfl ?_ | refine stepY (y_assign rfl) rfl ?_ | (first | refine stepY (y_load_rc1 rfl rfl) rfl ?_ | refine stepY (y_load_vi rfl rfl (by omega) (by omega)) rfl ?_) | (first | refine stepY (y_convn rfl (by simp only [InK, loK, hiK]; omega)) rfl ?_ | refine stepY (y_conv rfl) rfl ?_) | (first | refine stepY (y_index_si rfl rfl (by omega) (by omega)) rfl ?_ | refine stepY (y_index_vi rfl rfl rfl (by omega) (by omega)) rfl ?_) | refine stepY (y_binn rfl rfl rfl (by simp only [InK, loK, hiK]; omega)) rfl ?_ | refine stepY (y_binn rfl rfl rfl (by simp only [InK, loK, hiK]; omega)) rfl ?_ | refine stepY (y_shr32 rfl rfl (by decide)) rfl ?_ | refine stepY (y_cmpT rfl rfl rfl (by omega)) rfl ?_ | refine stepE (e_store_vi rfl rfl rfl (by omega) (by omega)) ?_)
      rw [show ((i : Int) + k).toNat = i + k by omega, wrap_u32]
      have e1 : ((c : Int) + ((dg (val a) i : Int) * rd b k + rd q ((i : Int) + k))) = ((p + (q.getD (i + k) 0).toNat + c : Nat) : Int) := by rw [hm1, hrd]; omega
      rw [e1]
      refine ⟨(k + 1, (p + (q.getD (i + k) 0).toNat + c) / B, q.set (i + k) (((p + (q.getD (i + k) 0).toNat + c) % B : Nat) : Int)), ⟨by omega, hs⟩, by dsimp only; omega, ?_, ?_⟩ <;> (repeat (first | exact sub_nil | exact subH_nil | refine sub_cons rfl ?_ | refine subH_cons rfl ?_))
    · obtain rfl : k = b.length := by omega
      have hl := hp.last (val_lt hb) (by omega)
      have hc := hp.c
      unfold B at hc
      repeat (first | refine seq_ ?_ | refine region_ ?_ | refine nil_ ?_ | refine exit_ ?_ | refine cond_f rfl ?_ | refine stepY (y_move rfl) rfl ?_ | refine stepY (y_len_si rfl) rfl ?_ | refine stepY (y_convn rfl (by simp only [InK, loK, hiK]; omega)) rfl ?_ | refine stepY (y_index_vi rfl rfl rfl (by omega) (by omega)) rfl ?_ | refine stepY (y_binn rfl rfl rfl (by simp only [InK, loK, hiK]; omega)) rfl ?_ | refine stepY (y_cmpF rfl rfl rfl (by omega)) rfl ?_ | refine stepE (e_store_vi rfl rfl rfl (by omega) (by omega)) ?_)
      rw [show ((i : Int) + b.length).toNat = i + b.length by omega]
      refine ⟨(i + 1, q.set (i + b.length) (c : Int)), ⟨by omega, hl⟩, by dsimp only; omega, ?_, ?_⟩ <;> (repeat (first | exact sub_nil | exact subH_nil | refine sub_cons rfl ?_ | refine subH_cons rfl ?_))
  · obtain rfl : i = a.length := by omega
    rw [Nat.mod_eq_of_lt (val_lt ha)] at hv
    repeat (first | refine seq_ ?_ | refine region_ ?_ | refine nil_ ?_ | refine exit_ ?_ | refine cond_f rfl ?_ | refine stepY (y_move rfl) rfl ?_ | refine stepY (y_cmpF rfl rfl rfl (by omega)) rfl ?_)
    refine seal_L (i := 65) (h := 16) rfl rfl rfl rfl ?_
    rw [← hv]
    refine call_ Tryz.func43 rfl rfl (Trim_c o hw) rfl (by repeat (first | exact .tag _ _ | apply Les.cons | exact .nil)) rfl ?_
    repeat (first | refine nil_ ?_ | refine ret_ ?_ | refine stepY (y_assign rfl) rfl ?_)
    ((apply fin_r); (repeat (first | exact .nil | exact .tmp rfl | apply ResL.cons)); (repeat (exact .refl _)))
end Go.Av

/-! Plain arithmetic of limbs: parts of numbers, shifts, the division by a guessed limb. -/
set_option linter.unusedVariables false
namespace Go.Av
theorem dg_div (n i j : Nat) : dg (n / B ^ i) j = dg n (i + j) := by
  unfold dg; rw [Nat.div_div_eq_div_mul, ← Nat.pow_add]
theorem dg_mod {n i j : Nat} (h : j < i) : dg (n % B ^ i) j = dg n j := by
  unfold dg
  obtain ⟨d, rfl⟩ : ∃ d, i = j + (d + 1) := ⟨i - j - 1, by omega⟩
  rw [Nat.pow_add, Nat.mod_mul_right_div_self, Nat.pow_succ, Nat.mul_comm (B ^ d) B, Nat.mod_mul_right_mod]
theorem dg_mod_ge {n i j : Nat} (h : i ≤ j) : dg (n % B ^ i) j = 0 := dg_big (ln_le.2 (Nat.lt_of_lt_of_le (Nat.mod_lt _ (Bp_pos i)) (Nat.pow_le_pow_right B_pos h)))
theorem lo_div {lo i x : Nat} (h : lo < B ^ i) : (lo + B ^ i * x) / B ^ i = x := by
  rw [Nat.add_mul_div_left _ _ (Bp_pos i), Nat.div_eq_of_lt h, Nat.zero_add]
theorem lo_mod {lo i x : Nat} (h : lo < B ^ i) : (lo + B ^ i * x) % B ^ i = lo := by
  rw [Nat.add_mul_mod_self_left, Nat.mod_eq_of_lt h]
theorem dg_lo {lo i x t : Nat} (h : lo < B ^ i) (ht : t < i) : dg (lo + B ^ i * x) t = dg lo t := by
  rw [← dg_mod (n := lo + B ^ i * x) ht, lo_mod h]
theorem dg_hi {lo i x t : Nat} (h : lo < B ^ i) : dg (lo + B ^ i * x) (i + t) = dg x t := by
  rw [← dg_div, lo_div h]
/-- the lowest j limbs of d, above them those of w -/
def mix (d w j : Nat) : Nat := d % B ^ j + B ^ j * (w / B ^ j)
theorem mix_zero (d w : Nat) : mix d w 0 = w := by simp [mix, Nat.mod_one]
theorem mix_full {d w n : Nat} (h : w < B ^ n) : mix d w n = d % B ^ n := by simp [mix, Nat.div_eq_of_lt h]
theorem dg_mix (d w j t : Nat) : dg (mix d w j) t = if t < j then dg d t else dg w t := by
  unfold mix
  split
  · rename_i h
    rw [dg_lo (Nat.mod_lt _ (Bp_pos j)) h, dg_mod h]
  · rename_i h
    obtain ⟨s, rfl⟩ : ∃ s, t = j + s := ⟨t - j, by omega⟩
    rw [dg_hi (Nat.mod_lt _ (Bp_pos j)), dg_div]
theorem padd_set_eq {m x y i : Nat} (hx : ∀ t, t ≠ i → dg x t = dg y t) : (padd m x).set i ((dg y i : Nat) : Int) = padd m y := by
  apply List.ext_getElem?
  intro t
  by_cases ht : t < m
  · by_cases hti : t = i
    · subst hti
      rw [List.getElem?_set_self (by simpa using ht), padd_get ht]
    · rw [List.getElem?_set_ne (Ne.symm hti), padd_get ht, padd_get ht, hx t hti]
  · rw [List.getElem?_eq_none (by simp; omega), List.getElem?_eq_none (by simp; omega)]
theorem mix_set {m lo i d w j : Nat} (h : lo < B ^ i) : (padd m (lo + B ^ i * mix d w j)).set (i + j) ((dg d j : Nat) : Int) = padd m (lo + B ^ i * mix d w (j + 1)) := by
  have e : dg d j = dg (lo + B ^ i * mix d w (j + 1)) (i + j) := by rw [dg_hi h, dg_mix, if_pos (by omega)]
  rw [e]
  refine padd_set_eq fun t ht => ?_
  by_cases hti : t < i
  · rw [dg_lo h hti, dg_lo h hti]
  · obtain ⟨s, rfl⟩ : ∃ s, t = i + s := ⟨t - i, by omega⟩
    rw [dg_hi h, dg_hi h, dg_mix, dg_mix]
    by_cases h1 : s < j
    · rw [if_pos h1, if_pos (by omega)]
    · rw [if_neg h1, if_neg (by omega)]

/-! carries of a product with one limb -/
def mc (q v j : Nat) : Nat := q * (v % B ^ j) / B ^ j
theorem mc_zero (q v : Nat) : mc q v 0 = 0 := by simp [mc, Nat.mod_one]
theorem mc_lt {q v j : Nat} (h : q < B) : mc q v j < B := by
  unfold mc
  rw [Nat.div_lt_iff_lt_mul (Bp_pos j)]
  have h1 := Nat.mod_lt v (Bp_pos j)
  rcases Nat.eq_zero_or_pos q with rfl | hq
  · rw [Nat.zero_mul]; exact Nat.mul_pos B_pos (Bp_pos j)
  · exact Nat.lt_of_lt_of_le (Nat.mul_lt_mul_of_pos_left h1 hq) (Nat.mul_le_mul_right _ (Nat.le_of_lt h))
theorem mc_step (q v j : Nat) : q * dg v j + mc q v j = dg (q * v) j + B * mc q v (j + 1) := by
  have key : ∀ j, q * (v % B ^ j) = (q * v) % B ^ j + B ^ j * mc q v j := by
    intro j
    unfold mc
    have := Nat.div_add_mod (q * (v % B ^ j)) (B ^ j)
    rw [Nat.mul_mod, Nat.mod_mod, ← Nat.mul_mod] at this
    omega
  have h1 := key j
  have h2 := key (j + 1)
  rw [mod_succ, mod_succ, Nat.mul_add, Nat.pow_succ, h1] at h2
  have h3 : B ^ j * (q * dg v j + mc q v j) = B ^ j * (dg (q * v) j + B * mc q v (j + 1)) := by
    rw [Nat.mul_add, Nat.mul_add, ← Nat.mul_assoc (B ^ j) B]
    rw [Nat.mul_left_comm q (B ^ j)] at h2
    omega
  exact Nat.eq_of_mul_eq_mul_left (Bp_pos j) h3

/-! shifts -/
def P2 (n : Nat) : Nat := 2 ^ n
theorem B_P2 {n : Nat} (h : n ≤ 32) : B = 2 ^ n * 2 ^ (32 - n) := by rw [← Nat.pow_add, show n + (32 - n) = 32 by omega]; rfl
theorem low_step {a n : Nat} (h : n ≤ 31) (i : Nat) : dg (a / 2 ^ n) i = (dg a i + B * dg a (i + 1)) / 2 ^ n % B := by
  have h0 := div_split a i
  have h1 := div_split a (i + 1)
  rw [h1] at h0
  have hd : dg (a / 2 ^ n) i = a / 2 ^ n / B ^ i % B := rfl
  rw [hd, Nat.div_div_eq_div_mul, Nat.mul_comm (2 ^ n), ← Nat.div_div_eq_div_mul, h0]
  have e : B * (B * (a / B ^ (i + 1 + 1)) + dg a (i + 1)) + dg a i = (dg a i + B * dg a (i + 1)) + 2 ^ n * (B * (2 ^ (32 - n) * (a / B ^ (i + 1 + 1)))) := by
    have e1 : B * (B * (a / B ^ (i + 1 + 1))) = 2 ^ n * (B * (2 ^ (32 - n) * (a / B ^ (i + 1 + 1)))) := by
      have := B_P2 (n := n) (by omega)
      generalize a / B ^ (i + 1 + 1) = z
      calc B * (B * z) = B * (2 ^ n * 2 ^ (32 - n) * z) := by rw [← this]
        _ = 2 ^ n * (B * (2 ^ (32 - n) * z)) := by rw [Nat.mul_assoc, Nat.mul_left_comm]
    rw [Nat.mul_add, e1]; omega
  rw [e, Nat.add_mul_div_left _ _ (Nat.pow_pos (by decide)), Nat.add_mul_mod_self_left]
theorem or_add {x z n : Nat} (hx : x < 2 ^ n) (hz : 2 ^ n ∣ z) : x ||| z = x + z := by
  obtain ⟨c, rfl⟩ := hz
  rw [Nat.or_comm, ← Nat.two_pow_add_eq_or_of_lt hx, Nat.add_comm]
theorem shift_step {a n : Nat} (hn : n ≤ 31) (i : Nat) :
    (a % B ^ (i + 1)) * 2 ^ n = (a % B ^ i) * 2 ^ n + B ^ i * (dg a i * 2 ^ n) := by
  rw [mod_succ, Nat.add_mul, Nat.mul_assoc]
theorem shift_lo {a n : Nat} (hn : n ≤ 31) (i : Nat) : (a % B ^ i) * 2 ^ n / B ^ i < 2 ^ n := by
  rw [Nat.div_lt_iff_lt_mul (Bp_pos i), Nat.mul_comm]
  exact Nat.mul_lt_mul_of_pos_left (Nat.mod_lt _ (Bp_pos i)) (Nat.pow_pos (by decide))
theorem shift_dg {a n i : Nat} (hn : n ≤ 31) : dg ((a % B ^ i) * 2 ^ n) i = (a % B ^ i) * 2 ^ n / B ^ i := by
  have h := shift_lo (a := a) hn i
  have : 2 ^ n ≤ 2 ^ 31 := Nat.pow_le_pow_right (by decide) hn
  have hb : 2 ^ 31 < B := by decide
  unfold dg
  exact Nat.mod_eq_of_lt (by omega)
/-- the limbs after one round of a shift to the left -/
theorem shift_list {a n i m : Nat} (hn : n ≤ 31) (hi : i + 1 < m) :
    ((padd m ((a % B ^ i) * 2 ^ n)).set i (((dg ((a % B ^ i) * 2 ^ n) i ||| dg a i * 2 ^ n % B) : Nat) : Int)).set (i + 1) ((dg a i * 2 ^ n / B : Nat) : Int) = padd m ((a % B ^ (i + 1)) * 2 ^ n) := by
  have hlo := shift_lo (a := a) hn i
  have hB := B_P2 (n := n) (by omega)
  have hdvd : 2 ^ n ∣ dg a i * 2 ^ n % B := by
    rw [Nat.dvd_iff_mod_eq_zero, hB, Nat.mod_mul_right_mod, Nat.mul_mod_left]
  rw [shift_dg hn, or_add hlo hdvd]
  generalize hy : dg a i * 2 ^ n = y at *
  generalize hz : (a % B ^ i) * 2 ^ n / B ^ i = z at *
  have hyB : y % B + z < B := by
    have h1 := Nat.mod_lt y B_pos
    obtain ⟨c, hc⟩ := hdvd
    rw [hc] at h1 ⊢
    rw [hB] at h1 ⊢
    have h2 : c < 2 ^ (32 - n) := Nat.lt_of_mul_lt_mul_left h1
    have h3 : 2 ^ n * (c + 1) ≤ 2 ^ n * 2 ^ (32 - n) := Nat.mul_le_mul_left _ h2
    rw [Nat.mul_succ] at h3
    omega
  have hval : (a % B ^ (i + 1)) * 2 ^ n = ((a % B ^ i) * 2 ^ n) % B ^ i + B ^ i * ((z + y % B) + B * (y / B)) := by
    rw [shift_step hn, hy]
    have h1 := Nat.div_add_mod ((a % B ^ i) * 2 ^ n) (B ^ i)
    have h2 := Nat.div_add_mod y B
    rw [hz] at h1
    rw [← h1, Nat.mul_add_mod, Nat.mod_mod]
    have h4 : B ^ i * y = B ^ i * (B * (y / B)) + B ^ i * (y % B) := by rw [← Nat.mul_add, h2]
    rw [Nat.mul_add, Nat.mul_add]
    omega
  have hlow := Nat.mod_lt ((a % B ^ i) * 2 ^ n) (Bp_pos i)
  have hq : y / B < B := by
    rw [Nat.div_lt_iff_lt_mul B_pos, ← hy]
    have h1 := dg_lt a i
    have h2 : 2 ^ n ≤ 2 ^ 31 := Nat.pow_le_pow_right (by decide) hn
    exact Nat.lt_of_lt_of_le (Nat.mul_lt_mul_of_lt_of_le h1 h2 (by decide)) (by decide)
  have hhi : ∀ s, dg (z + y % B + B * (y / B)) s = if s = 0 then z + y % B else if s = 1 then y / B else 0 := by
    intro s
    have e : z + y % B + B * (y / B) = z + y % B + B ^ 1 * (y / B) := by rw [Nat.pow_one]
    rw [e]
    have h1 : z + y % B < B ^ 1 := by rw [Nat.pow_one]; omega
    by_cases h0 : s = 0
    · subst h0
      rw [dg_lo h1 (by decide), if_pos rfl]
      unfold dg; rw [Nat.pow_zero, Nat.div_one]; exact Nat.mod_eq_of_lt (by omega)
    · obtain ⟨r, rfl⟩ : ∃ r, s = 1 + r := ⟨s - 1, by omega⟩
      rw [dg_hi h1, if_neg (by omega)]
      by_cases hr : r = 0
      · subst hr; rw [if_pos rfl]; unfold dg; rw [Nat.pow_zero, Nat.div_one]; exact Nat.mod_eq_of_lt hq
      · rw [if_neg (by omega)]; exact dg_big (ln_le.2 (Nat.lt_of_lt_of_le hq (by rw [show B = B ^ 1 by rw [Nat.pow_one]]; rw [← Nat.pow_mul]; exact Nat.pow_le_pow_right B_pos (by omega))))
  rw [hval]
  apply List.ext_getElem?
  intro t
  by_cases ht : t < m
  · rw [padd_get ht]
    rw [List.getElem?_set, List.getElem?_set]
    simp only [List.length_set, padd_length]
    by_cases h1 : i + 1 = t
    · subst h1
      rw [if_pos rfl, if_pos ht, dg_hi hlow, hhi]; simp
    · rw [if_neg h1]
      by_cases h2 : i = t
      · subst h2
        rw [if_pos rfl, if_pos ht]
        have := dg_hi (x := z + y % B + B * (y / B)) hlow (t := 0)
        rw [Nat.add_zero] at this
        rw [this, hhi]; simp
      · rw [if_neg h2, padd_get ht]
        by_cases h3 : t < i
        · rw [dg_lo hlow h3, dg_mod h3]
        · obtain ⟨s, rfl⟩ : ∃ s, t = i + s := ⟨t - i, by omega⟩
          rw [dg_hi hlow, hhi, if_neg (by omega), if_neg (by omega)]
          have : dg ((a % B ^ i) * 2 ^ n) (i + s) = 0 := by
            rw [← dg_div, hz]
            exact dg_big (ln_le.2 (Nat.lt_of_lt_of_le (m := B) (Nat.lt_of_lt_of_le hlo (by rw [hB]; exact Nat.le_mul_of_pos_right _ (Nat.pow_pos (by decide)))) (by rw [show B ^ s = B ^ (1 + (s - 1)) by congr 1; omega, Nat.pow_add, Nat.pow_one]; exact Nat.le_mul_of_pos_right _ (Bp_pos _))))
          rw [this]
  · rw [List.getElem?_eq_none (by simp; omega), List.getElem?_eq_none (by simp; omega)]
end Go.Av

/-! Plain arithmetic of limbs: the long division. -/
set_option linter.unusedVariables false
namespace Go.Av
def gl (e t d : Nat) : Nat → Nat → Nat
  | 0, _ => 0
  | x + 1, r => if r < B ∧ r * B + t < (x + 1) * e then gl e t d x (r + d) else x + 1
/-- the guessed limb of a quotient -/
def gs (top next third d e : Nat) : Nat := if top < d then gl e third d ((top * B + next) / d) ((top * B + next) % d) else gl e third d (B - 1) (next + d)
theorem gl_le (e t d : Nat) : ∀ x r, gl e t d x r ≤ x
  | 0, r => Nat.le_refl _
  | x + 1, r => by
    unfold gl
    split
    · exact Nat.le_succ_of_le (gl_le e t d x _)
    · exact Nat.le_refl _
theorem gl_ge {e t d q T : Nat} (hT : q * (d * B + e) ≤ T * B + t) : ∀ x r, q ≤ x → x * d + r = T → q ≤ gl e t d x r
  | 0, r, h, _ => by simpa [gl] using h
  | x + 1, r, h, hr => by
    unfold gl
    split
    · rename_i hc
      refine gl_ge hT x (r + d) ?_ (by rw [Nat.succ_mul] at hr; omega)
      have h1 : q * (d * B + e) < (x + 1) * (d * B + e) := by
        refine Nat.lt_of_le_of_lt hT ?_
        rw [← hr, Nat.add_mul, Nat.mul_add, Nat.mul_assoc]
        omega
      have := Nat.lt_of_mul_lt_mul_right h1
      omega
    · exact h
theorem gs_ok {top next third d e q : Nat} (hq : q < B) (h : q * (d * B + e) ≤ (top * B + next) * B + third) (htd : top ≤ d) (hd : 0 < d) (hn : next < B) (ht : third < B) : q ≤ gs top next third d e ∧ gs top next third d e < B := by
  unfold gs
  split
  · rename_i hlt
    have hx : (top * B + next) / d < B := by
      rw [Nat.div_lt_iff_lt_mul hd, Nat.mul_comm B d]
      have : (top + 1) * B ≤ d * B := Nat.mul_le_mul_right _ hlt
      rw [Nat.succ_mul] at this; omega
    refine ⟨gl_ge h _ _ ?_ ?_, Nat.lt_of_le_of_lt (gl_le _ _ _ _ _) hx⟩
    · rw [Nat.le_div_iff_mul_le hd]
      have h1 : q * d * B ≤ q * (d * B + e) := by rw [Nat.mul_add, Nat.mul_assoc]; omega
      have h2 : q * d * B < (top * B + next + 1) * B := by rw [Nat.succ_mul]; omega
      have := Nat.lt_of_mul_lt_mul_right h2
      omega
    · rw [Nat.mul_comm]; exact Nat.div_add_mod _ _
  · rename_i hge
    have : top = d := by omega
    subst this
    refine ⟨gl_ge h _ _ (by omega) ?_, Nat.lt_of_le_of_lt (gl_le _ _ _ _ _) (by decide)⟩
    rw [Nat.sub_mul, Nat.one_mul, Nat.mul_comm B top]
    have : top ≤ top * B := Nat.le_mul_of_pos_right _ B_pos
    omega
/-- what is left of the leading limbs if x times the divisor is taken off -/
def win (W V n x : Nat) : Nat := (W + B ^ n - x * V) % B ^ n
theorem win_lt (W V n x : Nat) : win W V n x < B ^ n := Nat.mod_lt _ (Bp_pos n)
theorem win_back {W V n x : Nat} (hx : W < (x + 1) * V) (h : (x + 1) * V ≤ W + B ^ n) (hW : W < B ^ n) : (win W V n (x + 1) + V) % B ^ n = win W V n x ∧ (B ^ n ≤ win W V n (x + 1) + V ↔ ¬ W < x * V) := by
  unfold win
  rw [Nat.succ_mul] at hx h ⊢
  rw [Nat.mod_eq_of_lt (a := W + B ^ n - (x * V + V)) (by omega)]
  constructor
  · congr 1; omega
  · omega
theorem win_end {W V n : Nat} (hW : W < B ^ n) : win W V n (W / V) = W % V := by
  unfold win
  have h1 := Nat.div_add_mod W V
  rw [Nat.mul_comm] at h1
  rw [show W + B ^ n - W / V * V = W % V + B ^ n by omega, Nat.add_mod_right, Nat.mod_eq_of_lt]
  have := Nat.mod_le W V
  omega
/-- one round of the long division -/
structure DS (A V k i : Nat) (lo W : Nat) : Prop where
  hlo : lo < B ^ i
  hu : A % (V * B ^ (i + 1)) = lo + B ^ i * W
  hw : W < B ^ (k + 1)
  hq : W / V < B
  dq : dg (A / V) i = W / V
  nx : A % (V * B ^ i) = lo + B ^ i * (W % V)
  qv : (B - 1) * V < B ^ (k + 1)
theorem DS.of {A V k i : Nat} (hV : V < B ^ k) (hV0 : 0 < V) : DS A V k i (A % (V * B ^ (i + 1)) % B ^ i) (A % (V * B ^ (i + 1)) / B ^ i) := by
  have hlt : A % (V * B ^ (i + 1)) / B ^ i < V * B := by
    rw [Nat.div_lt_iff_lt_mul (Bp_pos i), Nat.mul_assoc, ← Nat.pow_succ']
    exact Nat.mod_lt _ (Nat.mul_pos hV0 (Bp_pos _))
  have hu : A % (V * B ^ (i + 1)) = A % (V * B ^ (i + 1)) % B ^ i + B ^ i * (A % (V * B ^ (i + 1)) / B ^ i) := by
    have := Nat.div_add_mod (A % (V * B ^ (i + 1))) (B ^ i); omega
  refine ⟨Nat.mod_lt _ (Bp_pos i), hu, ?_, ?_, ?_, ?_, ?_⟩
  · refine Nat.lt_of_lt_of_le hlt ?_
    rw [Nat.pow_succ]
    exact Nat.mul_le_mul_right _ (Nat.le_of_lt hV)
  · rw [Nat.div_lt_iff_lt_mul hV0, Nat.mul_comm B V]; exact hlt
  · have : dg (A / V) i = A / V / B ^ i % B := rfl
    rw [this, Nat.div_div_eq_div_mul, Nat.div_div_eq_div_mul, Nat.mul_comm (B ^ i) V, Nat.pow_succ, ← Nat.mul_assoc, Nat.mod_mul_right_div_self]
  · have h1 : A % (V * B ^ i) = A % (V * B ^ (i + 1)) % (V * B ^ i) := by
      rw [Nat.mod_mod_of_dvd]
      rw [Nat.pow_succ, ← Nat.mul_assoc]
      exact Nat.dvd_mul_right _ _
    rw [h1]
    have hlo := Nat.mod_lt (A % (V * B ^ (i + 1))) (Bp_pos i)
    generalize A % (V * B ^ (i + 1)) / B ^ i = W at *
    generalize A % (V * B ^ (i + 1)) % B ^ i = lo at *
    rw [hu, Nat.mul_comm V]
    have h2 := Nat.div_add_mod W V
    have h3 : lo + B ^ i * W = (lo + B ^ i * (W % V)) + B ^ i * V * (W / V) := by
      have h4 : B ^ i * W = B ^ i * (V * (W / V)) + B ^ i * (W % V) := by rw [← Nat.mul_add, h2]
      rw [Nat.mul_assoc]; omega
    rw [h3, Nat.add_mul_mod_self_left, Nat.mod_eq_of_lt]
    have h5 : W % V + 1 ≤ V := Nat.mod_lt _ hV0
    have h6 : B ^ i * (W % V + 1) ≤ B ^ i * V := Nat.mul_le_mul_left _ h5
    rw [Nat.mul_succ] at h6
    omega
  · rw [Nat.pow_succ, Nat.mul_comm]
    exact Nat.mul_lt_mul_of_lt_of_le hV (by decide) (by decide)
/-- the guess is good -/
theorem guess_ok {W V k : Nat} (hV : V < B ^ (k + 2)) (hd : 0 < dg V (k + 1)) (hW : W < V * B) (hW' : W < B ^ (k + 3)) (hq : W / V < B) :
    W / V ≤ gs (dg W (k + 2)) (dg W (k + 1)) (dg W k) (dg V (k + 1)) (dg V k) ∧ gs (dg W (k + 2)) (dg W (k + 1)) (dg W k) (dg V (k + 1)) (dg V k) < B := by
  have w3 : W / B ^ (k + 3) = 0 := Nat.div_eq_of_lt hW'
  have w2 := div_split W (k + 2)
  have w1 := div_split W (k + 1)
  have w0 := div_split W k
  rw [show k + 2 + 1 = k + 3 from rfl, w3, Nat.mul_zero, Nat.zero_add] at w2
  rw [show k + 1 + 1 = k + 2 from rfl, w2] at w1
  rw [w1] at w0
  have v2 : V / B ^ (k + 2) = 0 := Nat.div_eq_of_lt hV
  have v1 := div_split V (k + 1)
  have v0 := div_split V k
  rw [show k + 1 + 1 = k + 2 from rfl, v2, Nat.mul_zero, Nat.zero_add] at v1
  rw [v1] at v0
  have hV0 : 0 < V := by
    rcases Nat.eq_zero_or_pos V with h | h
    · subst h; simp [dg] at hd
    · exact h
  refine gs_ok hq ?_ ?_ hd (dg_lt _ _) (dg_lt _ _)
  · rw [Nat.mul_comm (dg V (k + 1)), ← v0, Nat.mul_comm (dg W (k + 2)), Nat.mul_comm (B * dg W (k + 2) + dg W (k + 1)), ← w0, Nat.le_div_iff_mul_le (Bp_pos k), Nat.mul_assoc]
    exact Nat.le_trans (Nat.mul_le_mul_left _ (Nat.div_mul_le_self _ _)) (Nat.div_mul_le_self _ _)
  · rw [← w2, ← v1, show k + 2 = 1 + (k + 1) by omega, Nat.pow_add, Nat.pow_one, ← Nat.div_div_eq_div_mul]
    refine Nat.div_le_div_right ?_
    have : W / B < V := by rw [Nat.div_lt_iff_lt_mul B_pos]; exact hW
    omega
theorem first_lt {a b n la k : Nat} (ha : a < B ^ la) (hn : n ≤ 31) (hb : 2 ^ 31 * B ^ k ≤ b * 2 ^ n) (hk : k ≤ la) : a * 2 ^ n < b * 2 ^ n * B ^ (la - k) := by
  have h1 : a * 2 ^ n < B ^ la * 2 ^ n := Nat.mul_lt_mul_of_pos_right ha (Nat.pow_pos (by decide))
  have h2 : 2 ^ n ≤ 2 ^ 31 := Nat.pow_le_pow_right (by decide) hn
  have h3 : B ^ la * 2 ^ n ≤ B ^ la * 2 ^ 31 := Nat.mul_le_mul_left _ h2
  have h4 : B ^ la * 2 ^ 31 = 2 ^ 31 * B ^ k * B ^ (la - k) := by
    rw [Nat.mul_assoc, ← Nat.pow_add, show k + (la - k) = la by omega, Nat.mul_comm]
  have h5 : 2 ^ 31 * B ^ k * B ^ (la - k) ≤ b * 2 ^ n * B ^ (la - k) := Nat.mul_le_mul_right _ hb
  omega
/-- the leading zeros of a limb -/
def lz (x : Nat) : Nat := 31 - x.log2
theorem lz_le (x : Nat) : lz x ≤ 31 := by unfold lz; omega
theorem lz_ok {x : Nat} (h0 : 0 < x) (h : x < B) : 2 ^ 31 ≤ x * 2 ^ lz x ∧ x * 2 ^ lz x < B := by
  have h1 : x.log2 < 32 := (Nat.log2_lt (by omega)).2 h
  have h2 : 2 ^ x.log2 ≤ x := Nat.log2_self_le (by omega)
  have h3 : x < 2 ^ (x.log2 + 1) := Nat.lt_log2_self
  unfold lz
  constructor
  · calc 2 ^ 31 = 2 ^ x.log2 * 2 ^ (31 - x.log2) := by rw [← Nat.pow_add]; congr 1; omega
      _ ≤ x * 2 ^ (31 - x.log2) := Nat.mul_le_mul_right _ h2
  · calc x * 2 ^ (31 - x.log2) < 2 ^ (x.log2 + 1) * 2 ^ (31 - x.log2) := Nat.mul_lt_mul_of_pos_right h3 (Nat.pow_pos (by decide))
      _ = B := by rw [← Nat.pow_add, show x.log2 + 1 + (31 - x.log2) = 32 by omega]; rfl
/-- a divisor that is shifted till its highest bit is set -/
theorem norm_ok {b : Nat} (hb : 0 < b) : 2 ^ 31 * B ^ (ln b - 1) ≤ b * 2 ^ lz (dg b (ln b - 1)) ∧ b * 2 ^ lz (dg b (ln b - 1)) < B ^ ln b ∧ ln (b * 2 ^ lz (dg b (ln b - 1))) = ln b := by
  have hp := ln_pos.2 hb
  obtain ⟨k, hk⟩ : ∃ k, ln b = k + 1 := ⟨ln b - 1, by omega⟩
  have ht := top_ne hb
  have hlt := lt_ln b
  rw [hk] at ht hlt ⊢
  simp only [Nat.add_sub_cancel] at ht ⊢
  have h1 := div_split b k
  rw [Nat.div_eq_of_lt hlt, Nat.mul_zero, Nat.zero_add] at h1
  obtain ⟨h2, h3⟩ := lz_ok (Nat.pos_of_ne_zero ht) (dg_lt b k)
  generalize lz (dg b k) = n at *
  have h4 := Nat.div_add_mod b (B ^ k)
  rw [h1] at h4
  have h5 := Nat.mod_lt b (Bp_pos k)
  generalize b % B ^ k = r at *
  have h6 : 2 ^ 31 * B ^ k ≤ b * 2 ^ n := by
    calc 2 ^ 31 * B ^ k ≤ (dg b k * 2 ^ n) * B ^ k := Nat.mul_le_mul_right _ h2
      _ = (B ^ k * dg b k) * 2 ^ n := by rw [Nat.mul_comm, Nat.mul_assoc]
      _ ≤ b * 2 ^ n := Nat.mul_le_mul_right _ (by omega)
  have h7 : b * 2 ^ n < B ^ (k + 1) := by
    have hdv : 2 ^ n ∣ B := by
      have : n ≤ 32 := by
        rcases Nat.lt_or_ge 32 n with h | h
        · exfalso
          have h8 : 2 ^ 32 ≤ 2 ^ n := Nat.pow_le_pow_right (by decide) (by omega)
          have h9 : 2 ^ n ≤ dg b k * 2 ^ n := Nat.le_mul_of_pos_left _ (Nat.pos_of_ne_zero ht)
          have hB : B = 2 ^ 32 := rfl
          omega
        · exact h
      rw [B_P2 this]; exact Nat.dvd_mul_right _ _
    have h8 : (dg b k + 1) * 2 ^ n ≤ B := by
      obtain ⟨c, hc⟩ := hdv
      rw [hc] at h3 ⊢
      rw [Nat.mul_comm _ (2 ^ n)] at h3 ⊢
      exact Nat.mul_le_mul_left _ (Nat.lt_of_mul_lt_mul_left h3)
    calc b * 2 ^ n < (B ^ k * (dg b k + 1)) * 2 ^ n := Nat.mul_lt_mul_of_pos_right (by rw [Nat.mul_succ]; omega) (Nat.pow_pos (by decide))
      _ = B ^ k * ((dg b k + 1) * 2 ^ n) := by rw [Nat.mul_assoc]
      _ ≤ B ^ k * B := Nat.mul_le_mul_left _ h8
      _ = B ^ (k + 1) := by rw [Nat.pow_succ]
  refine ⟨h6, h7, ?_⟩
  have h8 := ln_le.2 h7
  have h9 : ¬ ln (b * 2 ^ n) ≤ k := by
    rw [ln_le]
    have : B ^ k ≤ 2 ^ 31 * B ^ k := Nat.le_mul_of_pos_left _ (by decide)
    omega
  omega
end Go.Av

set_option maxHeartbeats 4000000
set_option maxRecDepth 100000
set_option linter.unusedVariables false
set_option linter.unusedSimpArgs false
namespace Go.Av
open Go Go.Proofs

/-! math/bits.Div32 -/
theorem or32 {h l : Nat} (hh : h < 4294967296) (hl : l < 4294967296) : bits .or .u64 ((h : Int) * 4294967296) (l : Int) = ((h * 4294967296 + l : Nat) : Int) := by
  have e : ((h : Int) * 4294967296) = ((2 ^ 32 * h : Nat) : Int) := by omega
  rw [e, u64_or_nat _ _ (by omega) (by omega), ← Nat.two_pow_add_eq_or_of_lt (by omega)]
  omega
theorem Div32_c (y x d : Nat) (hx : x < 4294967296) (hd : d < 4294967296) (hy : y < d) : Con Tryz.prog 98 [U y, U x, U d] (.tp [U ((y * B + x) / d : Nat), U ((y * B + x) % d : Nat)]) := by
  refine con_of Tryz.func98 rfl rfl rfl rfl rfl ?_
  have h0 : (y * 4294967296 + x) / d < 4294967296 := by
    rw [Nat.div_lt_iff_lt_mul (by omega)]; omega
  have h1 : (y * 4294967296 + x) % d < d := Nat.mod_lt _ (by omega)
  repeat (first | refine seq_ ?_ | refine region_ ?_ | refine nil_ ?_ | refine skip_ ?_ | refine cond_f rfl ?_ | refine guard_t rfl rfl rfl ?_ | refine stepY (y_move rfl) rfl ?_ | refine stepY (y_assign rfl) rfl ?_ | refine stepY (y_convn rfl (by simp only [InK, loK, hiK]; omega)) rfl ?_ | refine stepY (y_pick_t rfl rfl) rfl ?_ | refine stepY (y_shl32 rfl rfl (by decide) (by simp only [InK, loK, hiK]; omega)) rfl ?_ | refine stepY (y_cmpT rfl rfl rfl (by omega)) rfl ?_ | refine stepY (y_cmpF rfl rfl rfl (by omega)) rfl ?_ | refine stepY (y_bin rfl rfl rfl) rfl ?_)
  rw [or32 (by omega) hx]
  generalize hz : y * 4294967296 + x = z at *
  have e1 : ((z : Nat) : Int) / (d : Int) = ((z / d : Nat) : Int) := by simp
  have e2 : ((z : Nat) : Int) % (d : Int) = ((z % d : Nat) : Int) := by simp
  have e3 := wrap32 h0
  have e4 := wrap32 (Nat.lt_trans h1 hd)
  skip
  refine draw_ [(0, true), (1, true), (2, true), (3, true), (4, true), (5, true), (6, true), (7, true), (8, true), (9, true), (10, true), (11, true)] 1000 [] mixed (by kernel_rfl) rfl ?_
  ((refine dY rfl (y_move rfl) rfl rfl rfl rfl ?_); refine dY rfl (y_move rfl) rfl rfl rfl rfl ?_; refine dY rfl (y_convn rfl (by simp only [InK, loK, hiK]; omega)) rfl rfl rfl rfl ?_; refine dY rfl (y_quop rfl rfl (by omega) (by omega) (by simp only [InK, loK, hiK]; omega)) rfl rfl rfl rfl ?_; refine dY rfl (y_conv rfl) rfl rfl rfl rfl ?_; refine dY rfl (y_move rfl) rfl rfl rfl rfl ?_; refine dY rfl (y_move rfl) rfl rfl rfl rfl ?_; refine dY rfl (y_convn rfl (by simp only [InK, loK, hiK]; omega)) rfl rfl rfl rfl ?_; refine dY rfl (y_remp rfl rfl (by omega) (by omega)) rfl rfl rfl rfl ?_; refine dY rfl (y_convn rfl (by simp only [InK, loK, hiK]; omega)) rfl rfl rfl rfl ?_; refine dY rfl (y_assign rfl) rfl rfl rfl rfl ?_; refine dY rfl (y_assign rfl) rfl rfl rfl rfl ?_; refine dEnd ?_)
  repeat (refine ret_ ?_)
  rw [e1, e2]
  try rw [e3]
  try rw [e4]
  rw [show y * B + x = z from hz]
  ((apply fin_r); (repeat (first | exact .nil | exact .tmp rfl | apply ResL.cons)); (repeat (exact .refl _)))

/-! limbs.Divided -/
theorem Divided_c (a : List Int) (d : Nat) (ha : wf a) (hla : a.length < 4294967296) (hd0 : 0 < d) (hd : d < 4294967296) : Con Tryz.prog 85 [Li a, U d] (.tp [M (val a / d), U (val a % d : Nat)]) := by
  refine con_of Tryz.func85 rfl rfl rfl rfl rfl ?_
  repeat (first | refine seq_ ?_ | refine region_ ?_ | refine nil_ ?_ | refine stepY (y_move rfl) rfl ?_ | refine stepY (y_assign rfl) rfl ?_ | refine stepY (y_len_si rfl) rfl ?_)
  refine stepE (e_make rfl rfl (by omega) (by omega) rfl rfl) ?_
  repeat (first | refine seq_ ?_ | refine region_ ?_ | refine nil_ ?_ | refine block_ ?_ | refine stepY (y_move rfl) rfl ?_ | refine stepY (y_assign rfl) rfl ?_ | refine stepY (y_len_si rfl) rfl ?_ | refine stepY (y_binn rfl rfl rfl (by simp only [InK, loK, hiK]; omega)) rfl ?_)
  rw [show ((a.length : Int)).toNat = a.length by omega, ← dz_full a.length (val a / d)]
  refine loop_ (α := Nat) (fun k => ([(0, .p (Li a)), (1, .p (U d)), (6, .vec 11), (7, .p (U (val a / B ^ k % d : Nat))), (8, .p (I ((k : Int) - 1)))], [(11, .vi 65 .u32 (dz k a.length (val a / d)))])) (fun k => k ≤ a.length) id a.length (Nat.le_refl _) ?_ ?_ ?_
  · rw [Nat.div_eq_of_lt (val_lt ha), Nat.zero_mod]; (repeat (first | exact sub_nil | refine sub_cons rfl ?_))
  · (repeat (first | exact subH_nil | refine subH_cons rfl ?_))
  intro k hk
  have hl : (dz k a.length (val a / d)).length = a.length := dz_length hk
  by_cases h0 : k = 0
  · subst h0
    repeat (first | refine seq_ ?_ | refine region_ ?_ | refine nil_ ?_ | refine exit_ ?_ | refine cond_f rfl ?_ | refine stepY (y_move rfl) rfl ?_ | refine stepY (y_cmpF rfl rfl rfl (by omega)) rfl ?_)
    refine seal_L (i := 32) (h := 11) rfl rfl rfl rfl ?_
    rw [dz_zero, Nat.pow_zero, Nat.div_one]
    have hv := Trim_c (padd a.length (val a / d)) (wf_padd _ _)
    rw [val_padd, Nat.mod_eq_of_lt (Nat.lt_of_le_of_lt (Nat.div_le_self _ _) (val_lt ha))] at hv
    refine call_ Tryz.func43 rfl rfl hv rfl (by repeat (first | exact .tag _ _ | apply Les.cons | exact .nil)) rfl ?_
    repeat (first | refine nil_ ?_ | refine ret_ ?_ | refine stepY (y_move rfl) rfl ?_ | refine stepY (y_assign rfl) rfl ?_)
    ((apply fin_r); (repeat (first | exact .nil | exact .tmp rfl | apply ResL.cons)); (repeat (exact .refl _)))
  · obtain ⟨j, rfl⟩ : ∃ j, k = j + 1 := ⟨k - 1, by omega⟩
    rw [show (((j + 1 : Nat) : Int) - 1) = (j : Int) by omega]
    have hs := short_step (a := val a) (k := j) hd0 (by unfold B; omega)
    have hm := Nat.mod_lt (val a / B ^ (j + 1)) hd0
    have hc := Div32_c (val a / B ^ (j + 1) % d) (dg (val a) j) d (dg_lt _ _) hd hm
    rw [hs.1, hs.2] at hc
    repeat (first | refine seq_ ?_ | refine region_ ?_ | refine nil_ ?_ | refine skip_ ?_ | refine block_ ?_ | refine cond_t rfl ?_ | refine stepY (y_move rfl) rfl ?_ | refine stepY (y_load_rc1 rfl rfl) rfl ?_ | refine stepY (y_index_si rfl rfl (by omega) (by omega)) rfl ?_ | refine stepY (y_cmpT rfl rfl rfl (by omega)) rfl ?_)
    rw [rd_dgk ha j]
    refine call_ Tryz.func98 rfl rfl hc rfl (by repeat (first | exact .refl _ | apply Les.cons | exact .nil)) rfl ?_
    repeat (first | refine region_ ?_ | refine nil_ ?_ | refine stepY (y_move rfl) rfl ?_ | refine stepY (y_assign rfl) rfl ?_ | refine stepY (y_extract rfl rfl) rfl ?_ | refine stepY (y_index_vi rfl rfl rfl (by omega) (by omega)) rfl ?_ | refine stepY (y_binn rfl rfl rfl (by simp only [InK, loK, hiK]; omega)) rfl ?_ | refine stepE (e_store_vi rfl rfl rfl (by omega) (by omega)) ?_)
    rw [Int.toNat_natCast, dz_set (by omega)]
    refine ⟨j, by omega, by simp only [id]; omega, ?_, ?_⟩ <;> (repeat (first | exact sub_nil | exact subH_nil | refine sub_cons rfl ?_ | refine subH_cons rfl ?_))

/-! math/bits.LeadingZeros32 -/
def tab : ByteArray := ⟨[0, 1, 2, 2, 3, 3, 3, 3, 4, 4, 4, 4, 4, 4, 4, 4, 5, 5, 5, 5, 5, 5, 5, 5, 5, 5, 5, 5, 5, 5, 5, 5, 6, 6, 6, 6, 6, 6, 6, 6, 6, 6, 6, 6, 6, 6, 6, 6, 6, 6, 6, 6, 6, 6, 6, 6, 6, 6, 6, 6, 6, 6, 6, 6, 7, 7, 7, 7, 7, 7, 7, 7, 7, 7, 7, 7, 7, 7, 7, 7, 7, 7, 7, 7, 7, 7, 7, 7, 7, 7, 7, 7, 7, 7, 7, 7, 7, 7, 7, 7, 7, 7, 7, 7, 7, 7, 7, 7, 7, 7, 7, 7, 7, 7, 7, 7, 7, 7, 7, 7, 7, 7, 7, 7, 7, 7, 7, 7, 8, 8, 8, 8, 8, 8, 8, 8, 8, 8, 8, 8, 8, 8, 8, 8, 8, 8, 8, 8, 8, 8, 8, 8, 8, 8, 8, 8, 8, 8, 8, 8, 8, 8, 8, 8, 8, 8, 8, 8, 8, 8, 8, 8, 8, 8, 8, 8, 8, 8, 8, 8, 8, 8, 8, 8, 8, 8, 8, 8, 8, 8, 8, 8, 8, 8, 8, 8, 8, 8, 8, 8, 8, 8, 8, 8, 8, 8, 8, 8, 8, 8, 8, 8, 8, 8, 8, 8, 8, 8, 8, 8, 8, 8, 8, 8, 8, 8, 8, 8, 8, 8, 8, 8, 8, 8, 8, 8, 8, 8, 8, 8, 8, 8, 8, 8, 8, 8, 8, 8, 8, 8, 8, 8, 8, 8, 8, 8].toArray⟩
def len32 (x : Nat) : Nat := if x = 0 then 0 else x.log2 + 1
theorem tab_all : ((List.range 256).all fun x => decide (bt tab (x : Int) = (len32 x : Int))) = true := by kernel_rfl
theorem tab_ok {x : Nat} (h : x < 256) : bt tab (x : Int) = (len32 x : Int) := by
  have := List.all_eq_true.1 tab_all x (List.mem_range.2 h)
  exact of_decide_eq_true this
theorem log2_down {x k : Nat} (h : 2 ^ k ≤ x) : len32 x = k + len32 (x / 2 ^ k) := by
  have hp : 0 < 2 ^ k := Nat.pow_pos (by decide)
  have h0 : 0 < x / 2 ^ k := Nat.div_pos h hp
  unfold len32
  rw [if_neg (by omega), if_neg (by omega)]
  have h1 : x.log2 = k + (x / 2 ^ k).log2 := by
    rw [Nat.log2_eq_iff (by omega)]
    have h2 : 2 ^ (x / 2 ^ k).log2 ≤ x / 2 ^ k := Nat.log2_self_le (by omega)
    have h3 : x / 2 ^ k < 2 ^ ((x / 2 ^ k).log2 + 1) := Nat.lt_log2_self
    constructor
    · rw [Nat.pow_add, Nat.mul_comm]; exact (Nat.le_div_iff_mul_le hp).1 h2
    · rw [Nat.add_assoc, Nat.pow_add, Nat.mul_comm]; exact (Nat.div_lt_iff_lt_mul hp).1 h3
  omega
theorem Len32_c (x : Nat) (hx : x < 4294967296) : Con Tryz.prog 99 [U x] (I (len32 x)) := by
  refine con_of Tryz.func99 rfl rfl rfl rfl rfl ?_
  by_cases h1 : 65536 ≤ x
  · by_cases h2 : 256 ≤ x / 65536
    · rw [log2_down (k := 16) (by omega), log2_down (k := 8) (x := x / 2 ^ 16) (by omega), show x / 2 ^ 16 / 2 ^ 8 = x / 65536 / 256 from rfl, Int.natCast_add, Int.natCast_add, ← Int.add_assoc]
      have hx2 : x / 65536 / 256 < 256 := by omega
      have hb : bt tab ((x : Int) / 65536 / 256) = (len32 (x / 65536 / 256) : Int) := by first | exact tab_ok hx2 | (rw [← tab_ok hx2]; congr 1; omega)
      have hl : len32 (x / 65536 / 256) ≤ 8 := by
        unfold len32
        split
        · omega
        · have : (x / 65536 / 256).log2 < 8 := (Nat.log2_lt (by omega)).2 (by omega)
          omega
      repeat (first | refine seq_ ?_ | refine region_ ?_ | refine nil_ ?_ | refine cond_t rfl ?_ | refine stepY (y_move rfl) rfl ?_ | refine stepY (y_assign rfl) rfl ?_ | refine stepY (y_convn rfl (by simp only [InK, loK, hiK]; omega)) rfl ?_ | refine stepY (y_binn rfl rfl rfl (by simp only [InK, loK, hiK]; omega)) rfl ?_ | (first | refine stepY (y_shr16 rfl rfl (by decide)) rfl ?_ | refine stepY (y_shr8 rfl rfl (by decide)) rfl ?_) | refine stepY (y_cmpT rfl rfl rfl (by omega)) rfl ?_)
      refine stepY (y_index_str (s := tab) rfl rfl (by omega) (Int.lt_of_lt_of_le (b := 256) (by omega) (by decide))) rfl ?_
      rw [hb]
      repeat (first | refine nil_ ?_ | refine ret_ ?_ | refine stepY (y_assign rfl) rfl ?_ | refine stepY (y_convn rfl (by simp only [InK, loK, hiK]; omega)) rfl ?_ | refine stepY (y_binn rfl rfl rfl (by simp only [InK, loK, hiK]; omega)) rfl ?_)
      ((apply fin_r); (repeat (first | exact .nil | exact .tmp rfl | apply ResL.cons)); (repeat (exact .refl _)))
    · rw [log2_down (k := 16) (by omega), show x / 2 ^ 16 = x / 65536 from rfl, Int.natCast_add]
      have hx2 : x / 65536 < 256 := by omega
      have hb : bt tab ((x : Int) / 65536) = (len32 (x / 65536) : Int) := by first | exact tab_ok hx2 | (rw [← tab_ok hx2]; congr 1; omega)
      have hl : len32 (x / 65536) ≤ 8 := by
        unfold len32
        split
        · omega
        · have : (x / 65536).log2 < 8 := (Nat.log2_lt (by omega)).2 (by omega)
          omega
      repeat (first | refine seq_ ?_ | refine region_ ?_ | refine nil_ ?_ | refine skip_ ?_ | refine cond_t rfl ?_ | refine cond_f rfl ?_ | refine stepY (y_move rfl) rfl ?_ | refine stepY (y_assign rfl) rfl ?_ | refine stepY (y_convn rfl (by simp only [InK, loK, hiK]; omega)) rfl ?_ | refine stepY (y_shr16 rfl rfl (by decide)) rfl ?_ | (first | refine stepY (y_cmpT rfl rfl rfl (by omega)) rfl ?_ | refine stepY (y_cmpF rfl rfl rfl (by omega)) rfl ?_))
      refine stepY (y_index_str (s := tab) rfl rfl (by omega) (Int.lt_of_lt_of_le (b := 256) (by omega) (by decide))) rfl ?_
      rw [hb]
      repeat (first | refine nil_ ?_ | refine ret_ ?_ | refine stepY (y_assign rfl) rfl ?_ | refine stepY (y_convn rfl (by simp only [InK, loK, hiK]; omega)) rfl ?_ | refine stepY (y_binn rfl rfl rfl (by simp only [InK, loK, hiK]; omega)) rfl ?_)
      ((apply fin_r); (repeat (first | exact .nil | exact .tmp rfl | apply ResL.cons)); (repeat (exact .refl _)))
  · by_cases h2 : 256 ≤ x
    · rw [log2_down (k := 8) (by omega), show x / 2 ^ 8 = x / 256 from rfl, Int.natCast_add]
      have hx2 : x / 256 < 256 := by omega
      have hb : bt tab ((x : Int) / 256) = (len32 (x / 256) : Int) := by first | exact tab_ok hx2 | (rw [← tab_ok hx2]; congr 1; omega)
      have hl : len32 (x / 256) ≤ 8 := by
        unfold len32
        split
        · omega
        · have : (x / 256).log2 < 8 := (Nat.log2_lt (by omega)).2 (by omega)
          omega
      repeat (first | refine seq_ ?_ | refine region_ ?_ | refine nil_ ?_ | refine skip_ ?_ | refine cond_t rfl ?_ | refine cond_f rfl ?_ | refine stepY (y_move rfl) rfl ?_ | refine stepY (y_assign rfl) rfl ?_ | refine stepY (y_convn rfl (by simp only [InK, loK, hiK]; omega)) rfl ?_ | refine stepY (y_binn rfl rfl rfl (by simp only [InK, loK, hiK]; omega)) rfl ?_ | refine stepY (y_shr8 rfl rfl (by decide)) rfl ?_ | (first | refine stepY (y_cmpT rfl rfl rfl (by omega)) rfl ?_ | refine stepY (y_cmpF rfl rfl rfl (by omega)) rfl ?_))
      refine stepY (y_index_str (s := tab) rfl rfl (by omega) (Int.lt_of_lt_of_le (b := 256) (by omega) (by decide))) rfl ?_
      rw [hb]
      repeat (first | refine nil_ ?_ | refine ret_ ?_ | refine stepY (y_assign rfl) rfl ?_ | refine stepY (y_convn rfl (by simp only [InK, loK, hiK]; omega)) rfl ?_ | refine stepY (y_binn rfl rfl rfl (by simp only [InK, loK, hiK]; omega)) rfl ?_)
      ((apply fin_r); (repeat (first | exact .nil | exact .tmp rfl | apply ResL.cons)); (repeat (exact .refl _)))
    · have e0 : (0 : Int) + (len32 x : Int) = len32 x := Int.zero_add _
      rw [← e0]
      have hx2 : x < 256 := by omega
      have hb : bt tab ((x : Int)) = (len32 (x) : Int) := by first | exact tab_ok hx2 | (rw [← tab_ok hx2]; congr 1; omega)
      have hl : len32 (x) ≤ 8 := by
        unfold len32
        split
        · omega
        · have : (x).log2 < 8 := (Nat.log2_lt (by omega)).2 (by omega)
          omega
      repeat (first | refine seq_ ?_ | refine region_ ?_ | refine nil_ ?_ | refine skip_ ?_ | refine cond_f rfl ?_ | refine stepY (y_move rfl) rfl ?_ | refine stepY (y_assign rfl) rfl ?_ | refine stepY (y_convn rfl (by simp only [InK, loK, hiK]; omega)) rfl ?_ | refine stepY (y_cmpF rfl rfl rfl (by omega)) rfl ?_)
      refine stepY (y_index_str (s := tab) rfl rfl (by omega) (Int.lt_of_lt_of_le (b := 256) (by omega) (by decide))) rfl ?_
      rw [hb]
      repeat (first | refine nil_ ?_ | refine ret_ ?_ | refine stepY (y_assign rfl) rfl ?_ | refine stepY (y_convn rfl (by simp only [InK, loK, hiK]; omega)) rfl ?_ | refine stepY (y_binn rfl rfl rfl (by simp only [InK, loK, hiK]; omega)) rfl ?_)
      ((apply fin_r); (repeat (first | exact .nil | exact .tmp rfl | apply ResL.cons)); (repeat (exact .refl _)))
theorem LeadingZeros32_c (x : Nat) (h0 : 0 < x) (hx : x < 4294967296) : Con Tryz.prog 86 [U x] (I (lz x)) := by
  refine con_of Tryz.func86 rfl rfl rfl rfl rfl ?_
  have hl : x.log2 < 32 := (Nat.log2_lt (by omega)).2 hx
  have e : (32 : Int) - len32 x = lz x := by unfold lz len32; rw [if_neg (by omega)]; omega
  have hr : len32 x ≤ 32 := by unfold len32; rw [if_neg (by omega)]; omega
  repeat (first | refine seq_ ?_ | refine region_ ?_ | refine nil_ ?_ | refine stepY (y_move rfl) rfl ?_ | refine stepY (y_assign rfl) rfl ?_)
  refine call_ Tryz.func99 rfl rfl (Len32_c x hx) rfl (by repeat (first | exact .refl _ | apply Les.cons | exact .nil)) rfl ?_
  repeat (first | refine nil_ ?_ | refine ret_ ?_ | refine stepY (y_assign rfl) rfl ?_ | refine stepY (y_binn rfl rfl rfl (by simp only [InK, loK, hiK]; omega)) rfl ?_)
  rw [e]
  ((apply fin_r); (repeat (first | exact .nil | exact .tmp rfl | apply ResL.cons)); (repeat (exact .refl _)))

/-! limbs.shifted -/
theorem shifted_r (a : List Int) (n : Nat) (ha : wf a) (hla : a.length < 4294967296) (hn : n ≤ 31) : ConR Tryz.prog 87 [Li a, I n] 65 .u32 (padd (a.length + 1) (val a * 2 ^ n)) := by
  refine conR_of Tryz.func87 rfl rfl rfl rfl rfl ?_
  repeat (first | refine seq_ ?_ | refine region_ ?_ | refine nil_ ?_ | refine stepY (y_move rfl) rfl ?_ | refine stepY (y_assign rfl) rfl ?_ | refine stepY (y_len_si rfl) rfl ?_ | refine stepY (y_binn rfl rfl rfl (by simp only [InK, loK, hiK]; omega)) rfl ?_)
  refine stepE (e_make rfl rfl (by omega) (by omega) rfl rfl) ?_
  repeat (first | refine seq_ ?_ | refine region_ ?_ | refine nil_ ?_ | refine block_ ?_ | refine stepY (y_move rfl) rfl ?_ | refine stepY (y_assign rfl) rfl ?_ | refine stepY (y_len_si rfl) rfl ?_)
  have ez : List.replicate (a.length + 1) (0 : Int) = padd (a.length + 1) ((val a % B ^ 0) * 2 ^ n) := by
    rw [Nat.pow_zero, Nat.mod_one, Nat.zero_mul]
    have := padd_val (wf_zero (a.length + 1))
    rw [val_zero, List.length_replicate] at this
    exact this.symm
  rw [show ((a.length : Int) + 1).toNat = a.length + 1 by omega, ez]
  refine loop_ (α := Nat) (fun i => ([(0, .p (Li a)), (1, .p (I n)), (5, .vec 12), (13, .p (Li a)), (14, .p (I a.length)), (15, .p (I i))], [(12, .vi 65 .u32 (padd (a.length + 1) ((val a % B ^ i) * 2 ^ n)))])) (fun i => i ≤ a.length) (fun i => a.length - i) 0 (Nat.zero_le _) ?_ ?_ ?_
  · (repeat (first | exact sub_nil | refine sub_cons rfl ?_))
  · (repeat (first | exact subH_nil | refine subH_cons rfl ?_))
  intro i hi
  by_cases hlt : i < a.length
  · have hl := padd_length (a.length + 1) ((val a % B ^ i) * 2 ^ n)
    have hy : dg (val a) i * 2 ^ n < 18446744073709551616 := by
      have h1 : 2 ^ n ≤ 2 ^ 31 := Nat.pow_le_pow_right (by decide) hn
      exact Nat.lt_of_lt_of_le (Nat.mul_lt_mul_of_lt_of_le (dg_lt _ _) h1 (by decide)) (by decide)
    have hd := dg_bd (val a) i
    have hs := shift_list (a := val a) (n := n) (i := i) (m := a.length + 1) hn (by omega)
    have ro : rd (padd (a.length + 1) ((val a % B ^ i) * 2 ^ n)) (i : Int) = (dg ((val a % B ^ i) * 2 ^ n) i : Int) := by
      have := rd_padd (k := a.length + 1) (n := (val a % B ^ i) * 2 ^ n) (i := (i : Int)) (by omega) (by omega)
      rwa [Int.toNat_natCast] at this
    generalize hq : dg (val a) i * 2 ^ n = y at *
    have hra : 0 ≤ rd a i ∧ rd a i < 4294967296 := by rw [rd_dgk ha i]; exact hd
    repeat (first | refine seq_ ?_ | refine region_ ?_ | refine nil_ ?_ | refine skip_ ?_ | refine block_ ?_ | refine cond_t rfl ?_ | refine stepY (y_move rfl) rfl ?_ | refine stepY (y_assign rfl) rfl ?_ | refine stepY (y_load_rc1 rfl rfl) rfl ?_ | refine stepY (y_convn rfl (by simp only [InK, loK, hiK]; omega)) rfl ?_ | refine stepY (y_index_si rfl rfl (by omega) (by omega)) rfl ?_ | refine stepY (y_cmpT rfl rfl rfl (by omega)) rfl ?_)
    rw [rd_dgk ha i]
    refine stepY (y_shln rfl rfl (by show (n : Int) ≤ 64; omega) (by simp only [InK, loK, hiK]; omega)) rfl ?_
    rw [hq]
    repeat (first | refine seq_ ?_ | refine region_ ?_ | refine nil_ ?_ | refine stepY (y_move rfl) rfl ?_ | refine stepY (y_assign rfl) rfl ?_ | refine stepY (y_load_vi rfl rfl (by omega) (by omega)) rfl ?_ | (first | refine stepY (y_convn rfl (by simp only [InK, loK, hiK]; omega)) rfl ?_ | refine stepY (y_conv rfl) rfl ?_) | refine stepY (y_index_vi rfl rfl rfl (by omega) (by omega)) rfl ?_ | refine stepY (y_binn rfl rfl rfl (by simp only [InK, loK, hiK]; omega)) rfl ?_ | refine stepY (y_shr32 rfl rfl (by decide)) rfl ?_ | refine stepY (y_bin rfl rfl rfl) rfl ?_ | refine stepE (e_store_vi rfl rfl rfl (by omega) (by omega)) ?_)
    have e1 : bits .or .u32 (rd (padd (a.length + 1) ((val a % B ^ i) * 2 ^ n)) (i : Int)) (IntKind.wrap .u32 (y : Int)) = ((dg ((val a % B ^ i) * 2 ^ n) i ||| y % B : Nat) : Int) := by
      rw [ro, wrap_u32, show (y : Int) % 4294967296 = ((y % B : Nat) : Int) by unfold B; omega]
      exact u32_or_nat _ _ (dg_lt _ _) (Nat.mod_lt _ B_pos)
    rw [e1]
    have hl' : ((padd (a.length + 1) ((val a % B ^ i) * 2 ^ n)).set i ((dg ((val a % B ^ i) * 2 ^ n) i ||| y % B : Nat) : Int)).length = a.length + 1 := by simp
    rw [Int.toNat_natCast]
    repeat (first | refine region_ ?_ | refine nil_ ?_ | refine stepY (y_move rfl) rfl ?_ | refine stepY (y_index_vi rfl rfl rfl (by omega) (by omega)) rfl ?_ | refine stepY (y_binn rfl rfl rfl (by simp only [InK, loK, hiK]; omega)) rfl ?_ | refine stepE (e_store_vi rfl rfl rfl (by omega) (by omega)) ?_)
    rw [show ((i : Int) + 1).toNat = i + 1 by omega, show (y : Int) / 4294967296 = ((y / B : Nat) : Int) by unfold B; omega, hs]
    refine ⟨i + 1, by omega, by omega, ?_, ?_⟩ <;> (repeat (first | exact sub_nil | exact subH_nil | refine sub_cons rfl ?_ | refine subH_cons rfl ?_))
  · obtain rfl : i = a.length := by omega
    repeat (first | refine seq_ ?_ | refine region_ ?_ | refine nil_ ?_ | refine exit_ ?_ | refine ret_ ?_ | refine cond_f rfl ?_ | refine stepY (y_move rfl) rfl ?_ | refine stepY (y_assign rfl) rfl ?_ | refine stepY (y_cmpF rfl rfl rfl (by omega)) rfl ?_)
    rw [Nat.mod_eq_of_lt (val_lt ha)]
    exact ⟨.inr rfl, _, _, rfl, rfl, rfl, rfl⟩
end Go.Av

set_option maxHeartbeats 4000000
set_option maxRecDepth 100000
set_option linter.unusedVariables false
set_option linter.unusedSimpArgs false
namespace Go.Av
open Go Go.Proofs

/-! limbs.lowered -/
theorem lowered_c (a : List Int) (n : Nat) (ha : wf a) (hla : a.length < 4294967296) (hn : n ≤ 31) : Con Tryz.prog 91 [Li a, I n] (M (val a / 2 ^ n)) := by
  refine con_of Tryz.func91 rfl rfl rfl rfl rfl ?_
  repeat (first | refine seq_ ?_ | refine region_ ?_ | refine nil_ ?_ | refine stepY (y_move rfl) rfl ?_ | refine stepY (y_assign rfl) rfl ?_ | refine stepY (y_len_si rfl) rfl ?_)
  refine stepE (e_make rfl rfl (by omega) (by omega) rfl rfl) ?_
  repeat (first | refine seq_ ?_ | refine region_ ?_ | refine nil_ ?_ | refine block_ ?_ | refine stepY (y_move rfl) rfl ?_ | refine stepY (y_assign rfl) rfl ?_ | refine stepY (y_len_si rfl) rfl ?_)
  rw [show ((a.length : Int)).toNat = a.length by omega, ← pz_zero a.length (val a / 2 ^ n)]
  refine loop_ (α := Nat) (fun k => ([(0, .p (Li a)), (1, .p (I n)), (5, .vec 10), (12, .p (I a.length)), (13, .p (I k))], [(10, .vi 65 .u32 (pz k a.length (val a / 2 ^ n)))])) (fun k => k ≤ a.length) (fun k => a.length - k) 0 (Nat.zero_le _) ?_ ?_ ?_
  · (repeat (first | exact sub_nil | refine sub_cons rfl ?_))
  · (repeat (first | exact subH_nil | refine subH_cons rfl ?_))
  intro k hk
  have hl : (pz k a.length (val a / 2 ^ n)).length = a.length := pz_length hk
  by_cases hlt : k < a.length
  · have h0 := rd_dgk ha k
    have b0 := dg_bd (val a) k
    have h1 := rd_dgk ha (k + 1)
    have b1 := dg_bd (val a) (k + 1)
    have hs := low_step (a := val a) hn k
    have hv : ∀ y : Nat, y = dg (val a) k + B * dg (val a) (k + 1) → IntKind.wrap .u32 ((y : Int) / 2 ^ n) = ((dg (val a / 2 ^ n) k : Nat) : Int) := by
      intro y hy
      rw [hs, ← hy, wrap_u32]
      have e : (y : Int) / 2 ^ n = ((y / 2 ^ n : Nat) : Int) := by simp
      rw [e, show (4294967296 : Int) = ((B : Nat) : Int) from rfl]
      simp
    have hra : 0 ≤ rd a k ∧ rd a k < 4294967296 := by rw [h0]; exact b0
    by_cases hn1 : k + 1 < a.length
    · have hrb : 0 ≤ rd a ((k : Int) + 1) ∧ rd a ((k : Int) + 1) < 4294967296 := by rw [show ((k : Int) + 1) = ((k + 1 : Nat) : Int) by omega, h1]; exact b1
      repeat (first | refine seq_ ?_ | refine region_ ?_ | refine nil_ ?_ | refine skip_ ?_ | refine block_ ?_ | refine cond_t rfl ?_ | refine stepY (y_move rfl) rfl ?_ | refine stepY (y_assign rfl) rfl ?_ | refine stepY (y_load_rc1 rfl rfl) rfl ?_ | refine stepY (y_len_si rfl) rfl ?_ | refine stepY (y_convn rfl (by simp only [InK, loK, hiK]; omega)) rfl ?_ | refine stepY (y_index_si rfl rfl (by omega) (by omega)) rfl ?_ | refine stepY (y_binn rfl rfl rfl (by simp only [InK, loK, hiK]; omega)) rfl ?_ | refine stepY (y_shl32 rfl rfl (by decide) (by simp only [InK, loK, hiK]; omega)) rfl ?_ | refine stepY (y_cmpT rfl rfl rfl (by omega)) rfl ?_ | refine stepY (y_bin rfl rfl rfl) rfl ?_)
      have e1 : bits .or .u64 (rd a (k : Int)) (rd a ((k : Int) + 1) * 4294967296) = ((dg (val a) k + B * dg (val a) (k + 1) : Nat) : Int) := by
        rw [show ((k : Int) + 1) = ((k + 1 : Nat) : Int) by omega, h0, h1]
        have e : ((dg (val a) (k + 1) : Int) * 4294967296) = ((2 ^ 32 * dg (val a) (k + 1) : Nat) : Int) := by omega
        rw [e, u64_or_nat _ _ (by omega) (by omega), Nat.or_comm, ← Nat.two_pow_add_eq_or_of_lt (by omega), Nat.add_comm]; rfl
      rw [e1]
      refine stepY (y_shrn rfl rfl (by show (n : Int) ≤ 64; omega)) rfl ?_
      repeat (first | refine region_ ?_ | refine nil_ ?_ | refine stepY (y_move rfl) rfl ?_ | refine stepY (y_conv rfl) rfl ?_ | refine stepY (y_index_vi rfl rfl rfl (by omega) (by omega)) rfl ?_ | refine stepY (y_binn rfl rfl rfl (by simp only [InK, loK, hiK]; omega)) rfl ?_ | refine stepE (e_store_vi rfl rfl rfl (by omega) (by omega)) ?_)
      rw [hv _ rfl, Int.toNat_natCast, pz_set (by omega)]
      refine ⟨k + 1, by omega, by omega, ?_, ?_⟩ <;> (repeat (first | exact sub_nil | exact subH_nil | refine sub_cons rfl ?_ | refine subH_cons rfl ?_))
    · have hz : dg (val a) (k + 1) = 0 := dg_big (ln_le.2 (Nat.lt_of_lt_of_le (val_lt ha) (Nat.pow_le_pow_right B_pos (by omega))))
      repeat (first | refine seq_ ?_ | refine region_ ?_ | refine nil_ ?_ | refine skip_ ?_ | refine block_ ?_ | refine cond_t rfl ?_ | refine cond_f rfl ?_ | refine stepY (y_move rfl) rfl ?_ | refine stepY (y_assign rfl) rfl ?_ | refine stepY (y_load_rc1 rfl rfl) rfl ?_ | refine stepY (y_len_si rfl) rfl ?_ | refine stepY (y_convn rfl (by simp only [InK, loK, hiK]; omega)) rfl ?_ | refine stepY (y_index_si rfl rfl (by omega) (by omega)) rfl ?_ | refine stepY (y_binn rfl rfl rfl (by simp only [InK, loK, hiK]; omega)) rfl ?_ | (first | refine stepY (y_cmpT rfl rfl rfl (by omega)) rfl ?_ | refine stepY (y_cmpF rfl rfl rfl (by omega)) rfl ?_))
      rw [h0]
      refine stepY (y_shrn rfl rfl (by show (n : Int) ≤ 64; omega)) rfl ?_
      repeat (first | refine region_ ?_ | refine nil_ ?_ | refine stepY (y_move rfl) rfl ?_ | refine stepY (y_conv rfl) rfl ?_ | refine stepY (y_index_vi rfl rfl rfl (by omega) (by omega)) rfl ?_ | refine stepY (y_binn rfl rfl rfl (by simp only [InK, loK, hiK]; omega)) rfl ?_ | refine stepE (e_store_vi rfl rfl rfl (by omega) (by omega)) ?_)
      rw [hv _ (by rw [hz]; omega), Int.toNat_natCast, pz_set (by omega)]
      refine ⟨k + 1, by omega, by omega, ?_, ?_⟩ <;> (repeat (first | exact sub_nil | exact subH_nil | refine sub_cons rfl ?_ | refine subH_cons rfl ?_))
  · obtain rfl : k = a.length := by omega
    repeat (first | refine seq_ ?_ | refine region_ ?_ | refine nil_ ?_ | refine exit_ ?_ | refine cond_f rfl ?_ | refine stepY (y_move rfl) rfl ?_ | refine stepY (y_cmpF rfl rfl rfl (by omega)) rfl ?_)
    refine seal_L (i := 43) (h := 10) rfl rfl rfl rfl ?_
    rw [pz_full]
    have hv := Trim_c (padd a.length (val a / 2 ^ n)) (wf_padd _ _)
    rw [val_padd, Nat.mod_eq_of_lt (Nat.lt_of_le_of_lt (Nat.div_le_self _ _) (val_lt ha))] at hv
    refine call_ Tryz.func43 rfl rfl hv rfl (by repeat (first | exact .tag _ _ | apply Les.cons | exact .nil)) rfl ?_
    repeat (first | refine nil_ ?_ | refine ret_ ?_ | refine stepY (y_assign rfl) rfl ?_)
    ((apply fin_r); (repeat (first | exact .nil | exact .tmp rfl | apply ResL.cons)); (repeat (exact .refl _)))

/-! limbs.guess -/
theorem guess_c (top next third d e : Nat) (ht1 : top < 4294967296) (ht2 : next < 4294967296) (ht3 : third < 4294967296) (hd : d < 4294967296) (he : e < 4294967296) :
    Con Tryz.prog 88 [U top, U next, U third, U d, U e] (UU (gs top next third d e)) := by
  refine con_of Tryz.func88 rfl rfl rfl rfl rfl ?_
  generalize hg : gs top next third d e = g
  unfold gs at hg
  by_cases hlt : top < d
  · rw [if_pos hlt] at hg
    have hq : (top * B + next) / d < 4294967296 := by
      rw [Nat.div_lt_iff_lt_mul (by omega)]; unfold B; omega
    have hm := Nat.mod_lt (top * B + next) (show 0 < d by omega)
    have hc := Div32_c top next d ht2 hd hlt
    generalize (top * B + next) / d = q at *
    generalize (top * B + next) % d = m at *
    repeat (first | refine seq_ ?_ | refine region_ ?_ | refine nil_ ?_ | refine cond_t rfl ?_ | refine stepY (y_move rfl) rfl ?_ | refine stepY (y_assign rfl) rfl ?_ | refine stepY (y_convn rfl (by simp only [InK, loK, hiK]; omega)) rfl ?_ | refine stepY (y_binn rfl rfl rfl (by simp only [InK, loK, hiK]; omega)) rfl ?_ | refine stepY (y_cmpT rfl rfl rfl (by omega)) rfl ?_)
    refine call_ Tryz.func98 rfl rfl hc rfl (by repeat (first | exact .refl _ | apply Les.cons | exact .nil)) rfl ?_
    repeat (first | refine seq_ ?_ | refine region_ ?_ | refine nil_ ?_ | refine block_ ?_ | refine stepY (y_move rfl) rfl ?_ | refine stepY (y_assign rfl) rfl ?_ | refine stepY (y_extract rfl rfl) rfl ?_ | refine stepY (y_convn rfl (by simp only [InK, loK, hiK]; omega)) rfl ?_)
    refine loop_ (α := Nat × Nat) (fun y => ([(2, .p (U third)), (3, .p (U d)), (4, .p (U e)), (11, .p (UU y.1)), (12, .p (UU y.2))], [])) (fun y => y.1 < 4294967296 ∧ y.2 < 18446744073709551616 ∧ (y.2 < 4294967296 → y.2 + d < 18446744073709551616) ∧ gl e third d y.1 y.2 = g) (fun y => y.1) (q, m) ⟨by omega, by omega, by omega, hg⟩ ?_ ?_ ?_
    · (repeat (first | exact sub_nil | refine sub_cons rfl ?_))
    · (repeat (exact subH_nil))
    intro ⟨x, r⟩ ⟨hx1, hr1, hr2, hgl⟩
    dsimp only at hx1 hr1 hr2 hgl ⊢
    have hm : x * e ≤ 4294967295 * 4294967295 := Nat.mul_le_mul (by omega) (by omega)
    have hm' : ((x : Int) * e) = ((x * e : Nat) : Int) := by simp
    by_cases h1 : r < 4294967296
    · have ho := or32 (h := r) (l := third) h1 ht3
      by_cases h2 : r * 4294967296 + third < x * e
      · have hx0 : x ≠ 0 := by intro h; subst h; simp at h2
        obtain ⟨x', rfl⟩ : ∃ x', x = x' + 1 := ⟨x - 1, by omega⟩
        have hgl' : gl e third d x' (r + d) = g := by rw [← hgl]; conv => rhs; unfold gl; rw [if_pos (show r < B ∧ r * B + third < (x' + 1) * e from ⟨h1, h2⟩)]
        generalize hp : (x' + 1) * e = p at *
        repeat (first | refine seq_ ?_ | refine region_ ?_ | refine nil_ ?_ | refine skip_ ?_ | refine block_ ?_ | refine cond_t rfl ?_ | refine guard_t rfl rfl rfl ?_ | refine stepY (y_move rfl) rfl ?_ | refine stepY (y_assign rfl) rfl ?_ | refine stepY (y_convn rfl (by simp only [InK, loK, hiK]; omega)) rfl ?_ | refine stepY (y_pick_t rfl rfl) rfl ?_ | refine stepY (y_binn rfl rfl rfl (by simp only [InK, loK, hiK]; omega)) rfl ?_ | refine stepY (y_binn rfl rfl rfl (by simp only [InK, loK, hiK]; omega)) rfl ?_ | refine stepY (y_binn rfl rfl rfl (by simp only [InK, loK, hiK]; omega)) rfl ?_ | refine stepY (y_shl32 rfl rfl (by decide) (by simp only [InK, loK, hiK]; omega)) rfl ?_ | refine stepY (y_cmpT rfl rfl rfl (by omega)) rfl ?_ | refine stepY (y_cmpT rfl rfl rfl (by omega)) rfl ?_ | refine stepY (y_bin rfl rfl rfl) rfl ?_)
        refine ⟨(x', r + d), ⟨by omega, by omega, by omega, hgl'⟩, Nat.lt_succ_self x', ?_, ?_⟩ <;> (repeat (first | exact sub_nil | exact subH_nil | refine sub_cons rfl ?_ | refine sub_conse rfl (by (congr 3; omega)) ?_))
      · have hgl' : x = g := by
          rw [← hgl]
          cases x with
          | zero => rfl
          | succ x => unfold gl; rw [if_neg (show ¬ (r < B ∧ r * B + third < (x + 1) * e) from fun h => h2 h.2)]
        generalize hp : x * e = p at *
        repeat (first | refine seq_ ?_ | refine region_ ?_ | refine nil_ ?_ | refine exit_ ?_ | refine ret_ ?_ | refine cond_f rfl ?_ | refine guard_t rfl rfl rfl ?_ | refine stepY (y_move rfl) rfl ?_ | refine stepY (y_assign rfl) rfl ?_ | refine stepY (y_convn rfl (by simp only [InK, loK, hiK]; omega)) rfl ?_ | refine stepY (y_pick_t rfl rfl) rfl ?_ | refine stepY (y_binn rfl rfl rfl (by simp only [InK, loK, hiK]; omega)) rfl ?_ | refine stepY (y_shl32 rfl rfl (by decide) (by simp only [InK, loK, hiK]; omega)) rfl ?_ | refine stepY (y_cmpT rfl rfl rfl (by omega)) rfl ?_ | refine stepY (y_cmpF rfl rfl rfl (by omega)) rfl ?_ | refine stepY (y_bin rfl rfl rfl) rfl ?_)
        rw [← hgl']
        ((apply fin_r); (repeat (first | exact .nil | exact .tmp rfl | apply ResL.cons)); (repeat (exact .refl _)))
    · have hgl' : x = g := by
        rw [← hgl]
        cases x with
        | zero => rfl
        | succ x => unfold gl; rw [if_neg (show ¬ (r < B ∧ r * B + third < (x + 1) * e) from fun h => h1 h.1)]
      repeat (first | refine seq_ ?_ | refine region_ ?_ | refine nil_ ?_ | refine exit_ ?_ | refine ret_ ?_ | refine cond_f rfl ?_ | refine guard_f rfl rfl rfl rfl ?_ | refine stepY (y_move rfl) rfl ?_ | refine stepY (y_assign rfl) rfl ?_ | refine stepY (y_pick_f rfl rfl) rfl ?_ | refine stepY (y_cmpF rfl rfl rfl (by omega)) rfl ?_)
      rw [← hgl']
      ((apply fin_r); (repeat (first | exact .nil | exact .tmp rfl | apply ResL.cons)); (repeat (exact .refl _)))
  · rw [if_neg hlt] at hg
    have hB : B - 1 = 4294967295 := rfl
    rw [hB] at hg
    repeat (first | refine seq_ ?_ | refine region_ ?_ | refine nil_ ?_ | refine skip_ ?_ | refine block_ ?_ | refine cond_f rfl ?_ | refine stepY (y_move rfl) rfl ?_ | refine stepY (y_assign rfl) rfl ?_ | refine stepY (y_convn rfl (by simp only [InK, loK, hiK]; omega)) rfl ?_ | refine stepY (y_binn rfl rfl rfl (by simp only [InK, loK, hiK]; omega)) rfl ?_ | refine stepY (y_cmpF rfl rfl rfl (by omega)) rfl ?_)
    refine loop_ (α := Nat × Nat) (fun y => ([(2, .p (U third)), (3, .p (U d)), (4, .p (U e)), (11, .p (UU y.1)), (12, .p (UU y.2))], [])) (fun y => y.1 < 4294967296 ∧ y.2 < 18446744073709551616 ∧ (y.2 < 4294967296 → y.2 + d < 18446744073709551616) ∧ gl e third d y.1 y.2 = g) (fun y => y.1) (4294967295, next + d) ⟨by omega, by omega, by omega, hg⟩ ?_ ?_ ?_
    · (repeat (first | exact sub_nil | refine sub_cons rfl ?_))
    · (repeat (exact subH_nil))
    intro ⟨x, r⟩ ⟨hx1, hr1, hr2, hgl⟩
    dsimp only at hx1 hr1 hr2 hgl ⊢
    have hm : x * e ≤ 4294967295 * 4294967295 := Nat.mul_le_mul (by omega) (by omega)
    have hm' : ((x : Int) * e) = ((x * e : Nat) : Int) := by simp
    by_cases h1 : r < 4294967296
    · have ho := or32 (h := r) (l := third) h1 ht3
      by_cases h2 : r * 4294967296 + third < x * e
      · have hx0 : x ≠ 0 := by intro h; subst h; simp at h2
        obtain ⟨x', rfl⟩ : ∃ x', x = x' + 1 := ⟨x - 1, by omega⟩
        have hgl' : gl e third d x' (r + d) = g := by rw [← hgl]; conv => rhs; unfold gl; rw [if_pos (show r < B ∧ r * B + third < (x' + 1) * e from ⟨h1, h2⟩)]
        generalize hp : (x' + 1) * e = p at *
        repeat (first | refine seq_ ?_ | refine region_ ?_ | refine nil_ ?_ | refine skip_ ?_ | refine block_ ?_ | refine cond_t rfl ?_ | refine guard_t rfl rfl rfl ?_ | refine stepY (y_move rfl) rfl ?_ | refine stepY (y_assign rfl) rfl ?_ | refine stepY (y_convn rfl (by simp only [InK, loK, hiK]; omega)) rfl ?_ | refine stepY (y_pick_t rfl rfl) rfl ?_ | refine stepY (y_binn rfl rfl rfl (by simp only [InK, loK, hiK]; omega)) rfl ?_ | refine stepY (y_binn rfl rfl rfl (by simp only [InK, loK, hiK]; omega)) rfl ?_ | refine stepY (y_binn rfl rfl rfl (by simp only [InK, loK, hiK]; omega)) rfl ?_ | refine stepY (y_shl32 rfl rfl (by decide) (by simp only [InK, loK, hiK]; omega)) rfl ?_ | refine stepY (y_cmpT rfl rfl rfl (by omega)) rfl ?_ | refine stepY (y_cmpT rfl rfl rfl (by omega)) rfl ?_ | refine stepY (y_bin rfl rfl rfl) rfl ?_)
        refine ⟨(x', r + d), ⟨by omega, by omega, by omega, hgl'⟩, Nat.lt_succ_self x', ?_, ?_⟩ <;> (repeat (first | exact sub_nil | exact subH_nil | refine sub_cons rfl ?_ | refine sub_conse rfl (by (congr 3; omega)) ?_))
      · have hgl' : x = g := by
          rw [← hgl]
          cases x with
          | zero => rfl
          | succ x => unfold gl; rw [if_neg (show ¬ (r < B ∧ r * B + third < (x + 1) * e) from fun h => h2 h.2)]
        generalize hp : x * e = p at *
        repeat (first | refine seq_ ?_ | refine region_ ?_ | refine nil_ ?_ | refine exit_ ?_ | refine ret_ ?_ | refine cond_f rfl ?_ | refine guard_t rfl rfl rfl ?_ | refine stepY (y_move rfl) rfl ?_ | refine stepY (y_assign rfl) rfl ?_ | refine stepY (y_convn rfl (by simp only [InK, loK, hiK]; omega)) rfl ?_ | refine stepY (y_pick_t rfl rfl) rfl ?_ | refine stepY (y_binn rfl rfl rfl (by simp only [InK, loK, hiK]; omega)) rfl ?_ | refine stepY (y_shl32 rfl rfl (by decide) (by simp only [InK, loK, hiK]; omega)) rfl ?_ | refine stepY (y_cmpT rfl rfl rfl (by omega)) rfl ?_ | refine stepY (y_cmpF rfl rfl rfl (by omega)) rfl ?_ | refine stepY (y_bin rfl rfl rfl) rfl ?_)
        rw [← hgl']
        ((apply fin_r); (repeat (first | exact .nil | exact .tmp rfl | apply ResL.cons)); (repeat (exact .refl _)))
    · have hgl' : x = g := by
        rw [← hgl]
        cases x with
        | zero => rfl
        | succ x => unfold gl; rw [if_neg (show ¬ (r < B ∧ r * B + third < (x + 1) * e) from fun h => h1 h.1)]
      repeat (first | refine seq_ ?_ | refine region_ ?_ | refine nil_ ?_ | refine exit_ ?_ | refine ret_ ?_ | refine cond_f rfl ?_ | refine guard_f rfl rfl rfl rfl ?_ | refine stepY (y_move rfl) rfl ?_ | refine stepY (y_assign rfl) rfl ?_ | refine stepY (y_pick_f rfl rfl) rfl ?_ | refine stepY (y_cmpF rfl rfl rfl (by omega)) rfl ?_)
      rw [← hgl']
      ((apply fin_r); (repeat (first | exact .nil | exact .tmp rfl | apply ResL.cons)); (repeat (exact .refl _)))
end Go.Av

set_option maxHeartbeats 4000000
set_option maxRecDepth 100000
set_option linter.unusedVariables false
set_option linter.unusedSimpArgs false
namespace Go.Av
open Go Go.Proofs

/-- the borrow of a difference that may be too large -/
theorem bw_up {W p j n : Nat} (h : j ≤ n) : bw (W + B ^ n) p j = bw W p j := by
  unfold bw
  obtain ⟨d, rfl⟩ : ∃ d, n = j + d := ⟨n - j, by omega⟩
  rw [Nat.pow_add, Nat.add_mul_mod_self_left]
theorem dg_up {W j n : Nat} (h : j < n) : dg (W + B ^ n) j = dg W j := by
  unfold dg
  obtain ⟨d, rfl⟩ : ∃ d, n = j + (d + 1) := ⟨n - j - 1, by omega⟩
  rw [Nat.pow_add, Nat.add_mul_div_left _ _ (Bp_pos j), Nat.pow_succ, Nat.add_mul_mod_self_right]

/-! limbs.subtract -/
theorem subtract_w (b : List Int) (hb : wf b) (m lo i n W q : Nat) (hm : m < 4294967296) (hin : i + n ≤ m) (hlo : lo < B ^ i) (hW : W < B ^ n) (hq : q < B) (hqV : q * val b < B ^ n) :
    ConW Tryz.prog 89 (.vw 1000000 i n) [Li b, UU q] 65 .u32 (padd m (lo + B ^ i * W)) (padd m (lo + B ^ i * win W (val b) n q)) (Bo (decide (W < q * val b))) := by
  refine conW_of Tryz.func89 rfl rfl rfl rfl rfl rfl rfl ?_
  have hle : q * val b ≤ W + B ^ n := by omega
  repeat (first | refine seq_ ?_ | refine region_ ?_ | refine nil_ ?_ | refine block_ ?_ | refine stepY (y_move rfl) rfl ?_ | refine stepY (y_assign rfl) rfl ?_ | refine stepY (y_len_vw rfl) rfl ?_)
  refine loop_ (α := Nat) (fun j => ([(0, .vw 1000000 i n), (1, .p (Li b)), (2, .p (UU q)), (7, .p (UU (mc q (val b) j))), (8, .p (U (bw W (q * val b) j))), (11, .p (I n)), (12, .p (I j))], [(1000000, .vi 65 .u32 (padd m (lo + B ^ i * mix (W + B ^ n - q * val b) W j)))])) (fun j => j ≤ n) (fun j => n - j) 0 (Nat.zero_le _) ?_ ?_ ?_
  · rw [mc_zero, bw_zero]; (repeat (first | exact sub_nil | refine sub_cons rfl ?_))
  · rw [mix_zero]; (repeat (first | exact subH_nil | refine subH_cons rfl ?_))
  intro j hj
  have hl : (padd m (lo + B ^ i * mix (W + B ^ n - q * val b) W j)).length = m := padd_length _ _
  by_cases hlt : j < n
  · have h0 := rd_dgk hb j
    have b0 := dg_bd (val b) j
    have hs := mc_step q (val b) j
    have hmc := mc_lt (v := val b) (j := j) hq
    have hmc' := mc_lt (v := val b) (j := j + 1) hq
    have hdg := dg_lt (q * val b) j
    have hq' := hq
    have hp : q * dg (val b) j ≤ 4294967295 * 4294967295 := Nat.mul_le_mul (by unfold B at hq; omega) (by omega)
    have ro : rd (padd m (lo + B ^ i * mix (W + B ^ n - q * val b) W j)) ((i : Int) + j) = (dg W j : Int) := by
      have := rd_padd (k := m) (n := lo + B ^ i * mix (W + B ^ n - q * val b) W j) (i := ((i : Int) + j)) (by omega) (by omega)
      rw [show ((i : Int) + j).toNat = i + j by omega, dg_hi hlo, dg_mix, if_neg (Nat.lt_irrefl j)] at this
      unfold rd
      rw [show ((i : Int) + j).toNat = i + j by omega]
      exact this
    have hc := sub_c (a := W + B ^ n) (b := q * val b) hle j
    rw [dg_up hlt, bw_up (by omega), bw_up (by omega)] at hc
    have e0 : (q : Int) * dg (val b) j = ((q * dg (val b) j : Nat) : Int) := by simp
    generalize hP : q * dg (val b) j = p at *
    unfold B at hmc hmc' hdg hq hs
    repeat (first | refine seq_ ?_ | refine region_ ?_ | refine nil_ ?_ | refine skip_ ?_ | refine block_ ?_ | refine cond_t rfl ?_ | refine stepY (y_move rfl) rfl ?_ | refine stepY (y_assign rfl) rfl ?_ | refine stepY (y_cmpT rfl rfl rfl (by omega)) rfl ?_)
    refine call_ Tryz.func73 rfl rfl (limb_c b j (by omega)) rfl (by repeat (first | exact .refl _ | apply Les.cons | exact .nil)) rfl ?_
    rw [h0]
    repeat (first | refine seq_ ?_ | refine region_ ?_ | refine nil_ ?_ | refine stepY (y_move rfl) rfl ?_ | refine stepY (y_assign rfl) rfl ?_ | refine stepY (y_load_vi rfl rfl (by omega) (by omega)) rfl ?_ | (first | refine stepY (y_convn rfl (by simp only [InK, loK, hiK]; omega)) rfl ?_ | refine stepY (y_conv rfl) rfl ?_) | refine stepY (y_index_vw rfl rfl (by omega) (by omega)) rfl ?_ | refine stepY (y_binn rfl rfl rfl (by simp only [InK, loK, hiK]; omega)) rfl ?_ | refine stepY (y_binn rfl rfl rfl (by simp only [InK, loK, hiK]; omega)) rfl ?_)
    rw [ro, e0]
    rw [show (mc q (val b) j : Int) + (p : Int) = ((dg (q * val b) j + B * mc q (val b) (j + 1) : Nat) : Int) by unfold B; omega]
    have ew : IntKind.wrap .u32 ((dg (q * val b) j + B * mc q (val b) (j + 1) : Nat) : Int) = ((dg (q * val b) j : Nat) : Int) := by rw [wrap_u32]; unfold B; omega
    rw [ew]
    refine call_ Tryz.func93 rfl rfl hc rfl (by repeat (first | exact .refl _ | apply Les.cons | exact .nil)) rfl ?_
    repeat (first | refine region_ ?_ | refine nil_ ?_ | refine stepY (y_move rfl) rfl ?_ | refine stepY (y_assign rfl) rfl ?_ | refine stepY (y_extract rfl rfl) rfl ?_ | refine stepY (y_index_vw rfl rfl (by omega) (by omega)) rfl ?_ | refine stepY (y_binn rfl rfl rfl (by simp only [InK, loK, hiK]; omega)) rfl ?_ | refine stepY (y_shr32 rfl rfl (by decide)) rfl ?_ | refine stepE (e_store_vi rfl rfl rfl (by omega) (by omega)) ?_)
    rw [show ((i : Int) + j).toNat = i + j by omega, mix_set hlo, show ((dg (q * val b) j + B * mc q (val b) (j + 1) : Nat) : Int) / 4294967296 = ((mc q (val b) (j + 1) : Nat) : Int) by unfold B; omega]
    refine ⟨j + 1, by omega, by omega, ?_, ?_⟩ <;> (repeat (first | exact sub_nil | exact subH_nil | refine sub_cons rfl ?_ | refine subH_cons rfl ?_))
  · obtain rfl : j = n := by omega
    have hbw : bw W (q * val b) j = if W < q * val b then 1 else 0 := by unfold bw; rw [Nat.mod_eq_of_lt hW, Nat.mod_eq_of_lt hqV]
    rw [mix_full hW, hbw]
    by_cases hlt' : W < q * val b
    · rw [if_pos hlt', show decide (W < q * val b) = true from decide_eq_true hlt']
      repeat (first | refine seq_ ?_ | refine region_ ?_ | refine nil_ ?_ | refine exit_ ?_ | refine ret_ ?_ | refine cond_f rfl ?_ | refine stepY (y_move rfl) rfl ?_ | refine stepY (y_assign rfl) rfl ?_ | refine stepY (y_cmpT rfl rfl rfl (by omega)) rfl ?_ | refine stepY (y_cmpF rfl rfl rfl (by omega)) rfl ?_)
      refine ⟨?_, rfl⟩
      ((apply fin_r); (repeat (first | exact .nil | exact .tmp rfl | apply ResL.cons)); (repeat (exact .refl _)))
    · rw [if_neg hlt', show decide (W < q * val b) = false from decide_eq_false hlt']
      repeat (first | refine seq_ ?_ | refine region_ ?_ | refine nil_ ?_ | refine exit_ ?_ | refine ret_ ?_ | refine cond_f rfl ?_ | refine stepY (y_move rfl) rfl ?_ | refine stepY (y_assign rfl) rfl ?_ | refine stepY (y_cmpF rfl rfl rfl (by omega)) rfl ?_ | refine stepY (y_cmpF rfl rfl rfl (by omega)) rfl ?_)
      refine ⟨?_, rfl⟩
      ((apply fin_r); (repeat (first | exact .nil | exact .tmp rfl | apply ResL.cons)); (repeat (exact .refl _)))

/-! limbs.restore -/
theorem restore_w (b : List Int) (hb : wf b) (m lo i n W : Nat) (hm : m < 4294967296) (hin : i + n ≤ m) (hlo : lo < B ^ i) (hW : W < B ^ n) (hV : val b < B ^ n) :
    ConW Tryz.prog 90 (.vw 1000000 i n) [Li b] 65 .u32 (padd m (lo + B ^ i * W)) (padd m (lo + B ^ i * ((W + val b) % B ^ n))) (Bo (decide (B ^ n ≤ W + val b))) := by
  refine conW_of Tryz.func90 rfl rfl rfl rfl rfl rfl rfl ?_
  repeat (first | refine seq_ ?_ | refine region_ ?_ | refine nil_ ?_ | refine block_ ?_ | refine stepY (y_move rfl) rfl ?_ | refine stepY (y_assign rfl) rfl ?_ | refine stepY (y_len_vw rfl) rfl ?_)
  refine loop_ (α := Nat) (fun j => ([(0, .vw 1000000 i n), (1, .p (Li b)), (5, .p (U (cy W (val b) j))), (8, .p (I n)), (9, .p (I j))], [(1000000, .vi 65 .u32 (padd m (lo + B ^ i * mix (W + val b) W j)))])) (fun j => j ≤ n) (fun j => n - j) 0 (Nat.zero_le _) ?_ ?_ ?_
  · rw [cy_zero]; (repeat (first | exact sub_nil | refine sub_cons rfl ?_))
  · rw [mix_zero]; (repeat (first | exact subH_nil | refine subH_cons rfl ?_))
  intro j hj
  have hl : (padd m (lo + B ^ i * mix (W + val b) W j)).length = m := padd_length _ _
  by_cases hlt : j < n
  · have h0 := rd_dgk hb j
    have ro : rd (padd m (lo + B ^ i * mix (W + val b) W j)) ((i : Int) + j) = (dg W j : Int) := by
      have := rd_padd (k := m) (n := lo + B ^ i * mix (W + val b) W j) (i := ((i : Int) + j)) (by omega) (by omega)
      rw [show ((i : Int) + j).toNat = i + j by omega, dg_hi hlo, dg_mix, if_neg (Nat.lt_irrefl j)] at this
      unfold rd
      rw [show ((i : Int) + j).toNat = i + j by omega]
      exact this
    repeat (first | refine seq_ ?_ | refine region_ ?_ | refine nil_ ?_ | refine skip_ ?_ | refine block_ ?_ | refine cond_t rfl ?_ | refine stepY (y_move rfl) rfl ?_ | refine stepY (y_assign rfl) rfl ?_ | refine stepY (y_cmpT rfl rfl rfl (by omega)) rfl ?_)
    refine draw_ [(0, true), (1, true), (2, true), (3, true), (4, true), (5, true), (6, true), (7, true), (9, true), (8, false), (10, false), (11, true), (12, true), (13, true), (14, true), (15, false), (16, true)] 15 [1000000] mixed (by kernel_rfl) rfl ?_
    ((refine dY rfl (y_move rfl) rfl rfl rfl rfl ?_); refine dY rfl (y_move rfl) rfl rfl rfl rfl ?_; refine dY rfl (y_move rfl) rfl rfl rfl rfl ?_; refine dY rfl (y_move rfl) rfl rfl rfl rfl ?_; refine dY rfl (y_index_vw rfl rfl (by omega) (by omega)) rfl rfl rfl rfl ?_; refine dY rfl (y_load_vi rfl rfl (by omega) (by omega)) rfl rfl rfl rfl ?_; refine dY rfl (y_move rfl) rfl rfl rfl rfl ?_; refine dY rfl (y_move rfl) rfl rfl rfl rfl ?_; refine dY rfl (y_move rfl) rfl rfl rfl rfl ?_)
    refine dC rfl Tryz.func73 rfl rfl (limb_c b j (by omega)) rfl (by repeat (first | exact .refl _ | apply Les.cons | exact .nil)) rfl rfl ?_
    skip
    rw [ro, h0]
    refine dC rfl Tryz.func72 rfl rfl (add_c W (val b) j) rfl (by repeat (first | exact .refl _ | apply Les.cons | exact .nil)) rfl rfl ?_
    ((refine dY rfl (y_move rfl) rfl rfl rfl rfl ?_); refine dY rfl (y_extract rfl rfl) rfl rfl rfl rfl ?_; refine dY rfl (y_extract rfl rfl) rfl rfl rfl rfl ?_; refine dY rfl (y_index_vw rfl rfl (by omega) (by omega)) rfl rfl rfl rfl ?_; (refine dX rfl (e_store_vi rfl rfl rfl (by omega) (by omega)) rfl rfl ?_); refine dY rfl (y_assign rfl) rfl rfl rfl rfl ?_; refine dEnd ?_)
    repeat (first | refine region_ ?_ | refine nil_ ?_ | refine stepY (y_move rfl) rfl ?_ | refine stepY (y_binn rfl rfl rfl (by simp only [InK, loK, hiK]; omega)) rfl ?_)
    rw [show ((i : Int) + j).toNat = i + j by omega, mix_set hlo]
    refine ⟨j + 1, by omega, by omega, ?_, ?_⟩ <;> (repeat (first | exact sub_nil | exact subH_nil | refine sub_cons rfl ?_ | refine subH_cons rfl ?_))
  · obtain rfl : j = n := by omega
    have hcy : cy W (val b) j = if B ^ j ≤ W + val b then 1 else 0 := by
      unfold cy
      rw [Nat.mod_eq_of_lt hW, Nat.mod_eq_of_lt hV]
      split
      · rename_i h
        rw [Nat.div_eq_sub_div (Bp_pos j) h, Nat.div_eq_of_lt (by omega)]
      · rename_i h
        exact Nat.div_eq_of_lt (by omega)
    rw [mix_full hW, hcy]
    by_cases hlt' : B ^ j ≤ W + val b
    · rw [if_pos hlt', show decide (B ^ j ≤ W + val b) = true from decide_eq_true hlt']
      repeat (first | refine seq_ ?_ | refine region_ ?_ | refine nil_ ?_ | refine exit_ ?_ | refine ret_ ?_ | refine cond_f rfl ?_ | refine stepY (y_move rfl) rfl ?_ | refine stepY (y_assign rfl) rfl ?_ | refine stepY (y_cmpT rfl rfl rfl (by omega)) rfl ?_ | refine stepY (y_cmpF rfl rfl rfl (by omega)) rfl ?_)
      refine ⟨?_, rfl⟩
      ((apply fin_r); (repeat (first | exact .nil | exact .tmp rfl | apply ResL.cons)); (repeat (exact .refl _)))
    · rw [if_neg hlt', show decide (B ^ j ≤ W + val b) = false from decide_eq_false hlt']
      repeat (first | refine seq_ ?_ | refine region_ ?_ | refine nil_ ?_ | refine exit_ ?_ | refine ret_ ?_ | refine cond_f rfl ?_ | refine stepY (y_move rfl) rfl ?_ | refine stepY (y_assign rfl) rfl ?_ | refine stepY (y_cmpF rfl rfl rfl (by omega)) rfl ?_ | refine stepY (y_cmpF rfl rfl rfl (by omega)) rfl ?_)
      refine ⟨?_, rfl⟩
      ((apply fin_r); (repeat (first | exact .nil | exact .tmp rfl | apply ResL.cons)); (repeat (exact .refl _)))
end Go.Av

set_option maxHeartbeats 8000000
set_option maxRecDepth 100000
set_option linter.unusedVariables false
set_option linter.unusedSimpArgs false
namespace Go.Av
open Go Go.Proofs
theorem val_one (x : Nat) : val [(x : Int)] = x := by simp [val]
theorem limbs_one {x : Nat} (h0 : 0 < x) (h : x < 4294967296) : limbs x = [(x : Int)] := by
  have hw : wf [(x : Int)] := by intro y hy; simp at hy; omega
  have := limbs_val hw (.inr (by simp; omega))
  rwa [show val [(x : Int)] = x by simp [val]] at this

/-! limbs.Division -/
theorem Division_c (a b : Nat) (hb0 : 0 < b) (hla : ln a < 2147483648) : Con Tryz.prog 61 [M a, M b] (.tp [M (a / b), M (a % b)]) := by
  refine con_of Tryz.func61 rfl rfl rfl rfl rfl ?_
  have hlb0 := ln_pos.2 hb0
  have lla : ((limbs a).length : Int) = ln a := by rw [limbs_length]
  have llb : ((limbs b).length : Int) = ln b := by rw [limbs_length]
  by_cases hab : a < b
  · have hs : sg a b = -1 := sg_lt hab
    repeat (first | refine seq_ ?_ | refine region_ ?_ | refine nil_ ?_ | refine stepY (y_move rfl) rfl ?_ | refine stepY (y_assign rfl) rfl ?_)
    refine call_ Tryz.func42 rfl rfl (Compare_c a b) rfl (by repeat (first | exact .refl _ | apply Les.cons | exact .nil)) rfl ?_
    rw [hs]
    repeat (first | refine seq_ ?_ | refine region_ ?_ | refine nil_ ?_ | refine ret_ ?_ | refine cond_t rfl ?_ | refine stepY (y_move rfl) rfl ?_ | refine stepY (y_assign rfl) rfl ?_ | refine stepY (y_cmpT rfl rfl rfl (by omega)) rfl ?_)
    rw [Nat.div_eq_of_lt hab, Nat.mod_eq_of_lt hab]
    ((apply fin_r); (repeat (first | exact .nil | exact .tmp rfl | apply ResL.cons)); (repeat (first | exact .refl _ | exact .nil _ _ | apply Le.tp | apply Les.cons | exact .nil)))
  · have hs : sg a b = 0 ∨ sg a b = 1 := by unfold sg; rw [if_neg hab]; split <;> simp
    have hle := ln_mono (show b ≤ a by omega)
    by_cases h1 : ln b = 1
    · have hbB : b < B := by have := lt_ln b; rwa [h1, Nat.pow_one] at this
      have hr : rd (limbs b) 0 = (b : Int) := by
        have := rd_limbs b (i := 0) (by omega)
        rw [this]; unfold dg; simp [Nat.mod_eq_of_lt hbB]
      have hd := Divided_c (limbs a) b (wf_limbs a) (by rw [limbs_length]; omega) hb0 hbB
      rw [val_limbs] at hd
      have hm := Nat.mod_lt a hb0
      have ht := Trim_c [((a % b : Nat) : Int)] (by intro y hy; simp only [List.mem_singleton] at hy; subst hy; unfold B at hbB; omega)
      rw [val_one] at ht
      repeat (first | refine seq_ ?_ | refine region_ ?_ | refine nil_ ?_ | refine stepY (y_move rfl) rfl ?_ | refine stepY (y_assign rfl) rfl ?_)
      refine call_ Tryz.func42 rfl rfl (Compare_c a b) rfl (by repeat (first | exact .refl _ | apply Les.cons | exact .nil)) rfl ?_
      repeat (first | refine seq_ ?_ | refine region_ ?_ | refine nil_ ?_ | refine skip_ ?_ | refine cond_t rfl ?_ | refine cond_f rfl ?_ | refine stepY (y_move rfl) rfl ?_ | refine stepY (y_load_rc1 rfl rfl) rfl ?_ | refine stepY (y_len_si rfl) rfl ?_ | refine stepY (y_index_si rfl rfl (by omega) (by omega)) rfl ?_ | refine stepY (y_cmpT rfl rfl rfl (by omega)) rfl ?_ | refine stepY (y_cmpF rfl rfl rfl (by omega)) rfl ?_)
      rw [hr]
      refine call_ Tryz.func85 rfl rfl hd rfl (by repeat (first | exact .refl _ | apply Les.cons | exact .nil)) rfl ?_
      repeat (first | refine seq_ ?_ | refine region_ ?_ | refine nil_ ?_ | refine stepY (y_move rfl) rfl ?_ | refine stepY (y_assign rfl) rfl ?_ | refine stepY (y_extract rfl rfl) rfl ?_ | refine stepE (e_bs_vi (k := .u32) rfl rfl rfl rfl rfl) ?_)
      refine seal_L (i := 35) (h := 35) rfl rfl rfl rfl ?_
      refine call_ Tryz.func43 rfl rfl ht rfl (by repeat (first | exact .tag _ _ | apply Les.cons | exact .nil)) rfl ?_
      repeat (first | refine nil_ ?_ | refine ret_ ?_ | refine stepY (y_assign rfl) rfl ?_)
      ((apply fin_r); (repeat (first | exact .nil | exact .tmp rfl | apply ResL.cons)); (repeat (exact .refl _)))
    · obtain ⟨k, hk⟩ : ∃ k, ln b = k + 2 := ⟨ln b - 2, by omega⟩
      obtain ⟨m, hm⟩ : ∃ m, ln a = m + (k + 1) := ⟨ln a - (k + 1), by omega⟩
      obtain ⟨hn1, hn2, hn3⟩ := norm_ok hb0
      have htop : rd (limbs b) ((limbs b).length - 1 : Int) = ((dg b (ln b - 1) : Nat) : Int) := by
        rw [llb, show ((ln b : Int) - 1) = ((ln b - 1 : Nat) : Int) by omega, rd_limbs b (by omega), Int.toNat_natCast]
      have htp := top_ne hb0
      have htl := dg_lt b (ln b - 1)
      have hlz := LeadingZeros32_c (dg b (ln b - 1)) (by omega) htl
      have hlz' := lz_le (dg b (ln b - 1))
      generalize lz (dg b (ln b - 1)) = n at *
      have hsa := shifted_r (limbs a) n (wf_limbs a) (by rw [limbs_length]; omega) hlz'
      have hsb := (shifted_r (limbs b) n (wf_limbs b) (by rw [limbs_length]; omega) hlz').con
      rw [val_limbs, limbs_length] at hsa hsb
      have htv := Trim_c (padd (ln b + 1) (b * 2 ^ n)) (wf_padd _ _)
      rw [val_padd, Nat.mod_eq_of_lt (Nat.lt_of_lt_of_le hn2 (Nat.pow_le_pow_right B_pos (by omega)))] at htv
      have hA := first_lt (a := a) (b := b) (n := n) (k := k + 1) (lt_ln a) hlz' (by rw [hk] at hn1; exact hn1) (by omega)
      rw [show ln a - (k + 1) = m by omega] at hA
      have hdivA : a * 2 ^ n / (b * 2 ^ n) = a / b := Nat.mul_div_mul_right _ _ (Nat.pow_pos (by decide))
      have hmodA : a * 2 ^ n % (b * 2 ^ n) = a % b * 2 ^ n := Nat.mul_mod_mul_right _ _ _
      generalize hV : b * 2 ^ n = V at *
      generalize hAA : a * 2 ^ n = A at *
      rw [hk] at hn2 hn3 hn1
      have hdV : 0 < dg V (k + 1) := by have := top_ne (n := V) (ln_pos.1 (by omega)); rw [hn3] at this; exact Nat.pos_of_ne_zero this
      have hV0 : 0 < V := ln_pos.1 (by omega)
      have llV : ((limbs V).length : Int) = k + 2 := by rw [limbs_length, hn3]; omega
      have llu : ((padd (ln a + 1) A).length : Int) = m + k + 2 := by rw [padd_length]; omega
      repeat (first | refine seq_ ?_ | refine region_ ?_ | refine nil_ ?_ | refine stepY (y_move rfl) rfl ?_ | refine stepY (y_assign rfl) rfl ?_)
      refine call_ Tryz.func42 rfl rfl (Compare_c a b) rfl (by repeat (first | exact .refl _ | apply Les.cons | exact .nil)) rfl ?_
      repeat (first | refine seq_ ?_ | refine region_ ?_ | refine nil_ ?_ | refine skip_ ?_ | refine cond_f rfl ?_ | refine stepY (y_move rfl) rfl ?_ | refine stepY (y_load_rc1 rfl rfl) rfl ?_ | refine stepY (y_len_si rfl) rfl ?_ | refine stepY (y_index_si rfl rfl (by omega) (by omega)) rfl ?_ | refine stepY (y_binn rfl rfl rfl (by simp only [InK, loK, hiK]; omega)) rfl ?_ | refine stepY (y_cmpF rfl rfl rfl (by omega)) rfl ?_ | refine stepY (y_cmpF rfl rfl rfl (by omega)) rfl ?_)
      rw [htop]
      refine call_ Tryz.func86 rfl rfl hlz rfl (by repeat (first | exact .refl _ | apply Les.cons | exact .nil)) rfl ?_
      repeat (first | refine seq_ ?_ | refine region_ ?_ | refine nil_ ?_ | refine stepY (y_move rfl) rfl ?_ | refine stepY (y_assign rfl) rfl ?_)
      refine callR_ Tryz.func87 rfl rfl hsa rfl (by repeat (first | exact .refl _ | apply Les.cons | exact .nil)) rfl rfl ?_
      repeat (refine stepY (y_move rfl) rfl ?_)
      refine call_ Tryz.func87 rfl rfl hsb rfl (by repeat (first | exact .refl _ | apply Les.cons | exact .nil)) rfl ?_
      refine call_ Tryz.func43 rfl rfl htv rfl (by repeat (first | exact .tag _ _ | apply Les.cons | exact .nil)) rfl ?_
      repeat (first | refine seq_ ?_ | refine region_ ?_ | refine nil_ ?_ | refine stepY (y_move rfl) rfl ?_ | refine stepY (y_assign rfl) rfl ?_ | (first | refine stepY (y_len_si rfl) rfl ?_ | refine stepY (y_len_vi rfl rfl) rfl ?_) | refine stepY (y_binn rfl rfl rfl (by simp only [InK, loK, hiK]; omega)) rfl ?_)
      refine stepE (e_make rfl rfl (by omega) (by omega) rfl rfl) ?_
      repeat (first | refine seq_ ?_ | refine region_ ?_ | refine nil_ ?_ | refine block_ ?_ | refine stepY (y_move rfl) rfl ?_ | refine stepY (y_assign rfl) rfl ?_ | refine stepY (y_len_vi rfl rfl) rfl ?_ | refine stepY (y_binn rfl rfl rfl (by simp only [InK, loK, hiK]; omega)) rfl ?_)
      rw [show (((padd (ln a + 1) A).length : Int) - ((limbs V).length : Int)).toNat = m by omega, ← dz_full m (A / V), llV, llu]
      refine loop_ (α := Nat) (fun j => ([(8, .p (I n)), (9, .vec 46), (10, .p (M V)), (11, .p (I (k + 2))), (12, .vec 57), (13, .p (I ((j : Int) - 1)))], [(46, .vi 65 .u32 (padd (ln a + 1) (A % (V * B ^ j)))), (57, .vi 65 .u32 (dz j m (A / V)))])) (fun j => j ≤ m) id m (Nat.le_refl _) ?_ ?_ ?_
      · (repeat (first | exact sub_nil | refine sub_cons rfl ?_ | refine sub_conse rfl (by (congr 3; omega)) ?_))
      · rw [Nat.mod_eq_of_lt hA]; (repeat (first | exact subH_nil | refine subH_cons rfl ?_))
      intro j hj
      by_cases h0 : j = 0
      · subst h0
        repeat (first | refine seq_ ?_ | refine region_ ?_ | refine nil_ ?_ | refine exit_ ?_ | refine cond_f rfl ?_ | refine stepY (y_move rfl) rfl ?_ | refine stepY (y_cmpF rfl rfl rfl (by omega)) rfl ?_)
        refine seal_C (i := 12) (h := 57) rfl rfl rfl rfl ?_
        refine seal_C (i := 9) (h := 46) rfl rfl rfl rfl ?_
        have hq := Trim_c (padd m (A / V)) (wf_padd _ _)
        rw [val_padd, Nat.mod_eq_of_lt (by rw [Nat.div_lt_iff_lt_mul hV0, Nat.mul_comm]; exact hA), hdivA] at hq
        have hlu : ((padd (ln a + 1) (A % (V * B ^ 0))).length : Int) = m + k + 2 := by rw [padd_length]; omega
        have hlow := lowered_c (padd (k + 2) (A % V)) n (wf_padd _ _) (by rw [padd_length]; omega) hlz'
        rw [val_padd, Nat.mod_eq_of_lt (Nat.lt_trans (Nat.mod_lt _ hV0) hn2), hmodA, Nat.mul_div_cancel _ (Nat.pow_pos (by decide))] at hlow
        rw [dz_zero, hdivA]
        refine draw_ [(0, true), (2, true), (3, true), (4, true), (5, true), (1, false), (6, false), (7, true), (8, true)] 1000 [] mixed (by kernel_rfl) rfl ?_
        ((refine dY rfl (y_move rfl) rfl rfl rfl rfl ?_); refine dY rfl (y_move rfl) rfl rfl rfl rfl ?_; refine dY rfl (y_move rfl) rfl rfl rfl rfl ?_; refine dY rfl (y_slice_si_h rfl rfl (by omega) (by omega)) rfl rfl rfl rfl ?_; refine dY rfl (y_move rfl) rfl rfl rfl rfl ?_)
        refine dC rfl Tryz.func43 rfl rfl hq rfl (by repeat (first | exact .tag _ _ | apply Les.cons | exact .nil)) rfl rfl ?_
        skip
        rw [show ((k : Int) + 2).toNat = k + 2 by omega, padd_take (by omega), Nat.pow_zero, Nat.mul_one, hmodA]
        refine dC rfl Tryz.func91 rfl rfl hlow rfl (by repeat (first | exact .refl _ | exact .tag _ _ | apply Les.cons | exact .nil)) rfl rfl ?_
        ((refine dY rfl (y_assign rfl) rfl rfl rfl rfl ?_); refine dY rfl (y_assign rfl) rfl rfl rfl rfl ?_; refine dEnd ?_)
        repeat (refine ret_ ?_)
        ((apply fin_r); (repeat (first | exact .nil | exact .tmp rfl | apply ResL.cons)); (repeat (exact .refl _)))
      · obtain ⟨i, rfl⟩ : ∃ i, j = i + 1 := ⟨j - 1, by omega⟩
        have hD := DS.of (A := A) (i := i) hn2 hV0
        have hWV : A % (V * B ^ (i + 1)) / B ^ i < V * B := by
          rw [Nat.div_lt_iff_lt_mul (Bp_pos i), Nat.mul_assoc, ← Nat.pow_succ']
          exact Nat.mod_lt _ (Nat.mul_pos hV0 (Bp_pos _))
        generalize A % (V * B ^ (i + 1)) / B ^ i = W at *
        generalize A % (V * B ^ (i + 1)) % B ^ i = lo at *
        rw [hD.hu, show (((i + 1 : Nat) : Int) - 1) = (i : Int) by omega]
        have hlo := hD.hlo
        have hW := hD.hw
        have hqV := hD.qv
        have hg := guess_ok hn2 hdV hWV hW hD.hq
        have hlu : ((padd (ln a + 1) (lo + B ^ i * W)).length : Int) = m + k + 2 := by rw [padd_length]; omega
        have hlo2 : (dz (i + 1) m (A / V)).length = m := dz_length (by omega)
        have rdu : ∀ t : Nat, t < k + 3 → rd (padd (ln a + 1) (lo + B ^ i * W)) ((i : Int) + t) = ((dg W t : Nat) : Int) := by
          intro t ht
          have := rd_padd (k := ln a + 1) (n := lo + B ^ i * W) (i := ((i : Int) + t)) (by omega) (by omega)
          rw [show ((i : Int) + t).toNat = i + t by omega, dg_hi hlo] at this
          unfold rd
          rw [show ((i : Int) + t).toNat = i + t by omega]
          exact this
        have rdv : ∀ t : Nat, rd (limbs V) (t : Int) = ((dg V t : Nat) : Int) := fun t => by rw [rd_limbs V (by omega), Int.toNat_natCast]
        have hgc := guess_c (dg W (k + 2)) (dg W (k + 1)) (dg W k) (dg V (k + 1)) (dg V k) (dg_lt _ _) (dg_lt _ _) (dg_lt _ _) (dg_lt _ _) (dg_lt _ _)
        generalize gs (dg W (k + 2)) (dg W (k + 1)) (dg W k) (dg V (k + 1)) (dg V k) = g at *
        have hsub := subtract_w (limbs V) (wf_limbs V) (ln a + 1) lo i (k + 3) W g (by omega) (by omega) hlo hW hg.2 (by rw [val_limbs]; exact Nat.lt_of_le_of_lt (Nat.mul_le_mul_right _ (by omega)) hqV)
        rw [val_limbs] at hsub
        repeat (first | refine seq_ ?_ | refine region_ ?_ | refine nil_ ?_ | refine skip_ ?_ | refine block_ ?_ | refine cond_t rfl ?_ | refine stepY (y_move rfl) rfl ?_ | refine stepY (y_assign rfl) rfl ?_ | refine stepY (y_slice_vi rfl rfl rfl rfl (by omega) (by omega) (by omega)) rfl ?_ | refine stepY (y_binn rfl rfl rfl (by simp only [InK, loK, hiK]; omega)) rfl ?_ | refine stepY (y_cmpT rfl rfl rfl (by omega)) rfl ?_)
        rw [Int.toNat_natCast, show ((i : Int) + (k + 2) + 1 - i).toNat = k + 3 by omega]
        refine draw_ [(0, true), (1, true), (2, true), (3, true), (4, true), (5, true), (6, true), (7, true), (8, true), (9, true), (10, true), (11, true), (12, true), (13, true), (14, true), (15, true), (16, true), (17, true), (18, true), (19, true), (20, true), (21, true), (22, true), (23, true), (24, false), (25, true)] 1000 [46] mixed (by kernel_rfl) rfl ?_
        ((refine dY rfl (y_move rfl) rfl rfl rfl rfl ?_); refine dY rfl (y_move rfl) rfl rfl rfl rfl ?_; refine dY rfl (y_index_vw rfl rfl (by omega) (by omega)) rfl rfl rfl rfl ?_; refine dY rfl (y_load_vi rfl rfl (by omega) (by omega)) rfl rfl rfl rfl ?_; refine dY rfl (y_move rfl) rfl rfl rfl rfl ?_; refine dY rfl (y_move rfl) rfl rfl rfl rfl ?_; refine dY rfl (y_binn rfl rfl rfl (by simp only [InK, loK, hiK]; omega)) rfl rfl rfl rfl ?_; refine dY rfl (y_index_vw rfl rfl (by omega) (by omega)) rfl rfl rfl rfl ?_; refine dY rfl (y_load_vi rfl rfl (by omega) (by omega)) rfl rfl rfl rfl ?_; refine dY rfl (y_move rfl) rfl rfl rfl rfl ?_; refine dY rfl (y_move rfl) rfl rfl rfl rfl ?_; refine dY rfl (y_binn rfl rfl rfl (by simp only [InK, loK, hiK]; omega)) rfl rfl rfl rfl ?_; refine dY rfl (y_index_vw rfl rfl (by omega) (by omega)) rfl rfl rfl rfl ?_; refine dY rfl (y_load_vi rfl rfl (by omega) (by omega)) rfl rfl rfl rfl ?_; refine dY rfl (y_move rfl) rfl rfl rfl rfl ?_; refine dY rfl (y_move rfl) rfl rfl rfl rfl ?_; refine dY rfl (y_binn rfl rfl rfl (by simp only [InK, loK, hiK]; omega)) rfl rfl rfl rfl ?_; refine dY rfl (y_index_si rfl rfl (by omega) (by omega)) rfl rfl rfl rfl ?_; refine dY rfl (y_load_rc1 rfl rfl) rfl rfl rfl rfl ?_; refine dY rfl (y_move rfl) rfl rfl rfl rfl ?_; refine dY rfl (y_move rfl) rfl rfl rfl rfl ?_; refine dY rfl (y_binn rfl rfl rfl (by simp only [InK, loK, hiK]; omega)) rfl rfl rfl rfl ?_; refine dY rfl (y_index_si rfl rfl (by omega) (by omega)) rfl rfl rfl rfl ?_; refine dY rfl (y_load_rc1 rfl rfl) rfl rfl rfl rfl ?_)
        rw [show ((i : Int) + (k + 2)) = ((i : Int) + ((k + 2 : Nat) : Int)) by omega, show ((i : Int) + (k + 2 - 1)) = ((i : Int) + ((k + 1 : Nat) : Int)) by omega, show ((i : Int) + (k + 2 - 2)) = ((i : Int) + ((k : Nat) : Int)) by omega, rdu _ (by omega), rdu _ (by omega), rdu _ (by omega), show ((k : Int) + 2 - 1) = ((k + 1 : Nat) : Int) by omega, show ((k : Int) + 2 - 2) = (k : Int) by omega, rdv, rdv]
        refine dC rfl Tryz.func88 rfl rfl hgc rfl (by repeat (first | exact .refl _ | apply Les.cons | exact .nil)) rfl rfl ?_
        ((refine dY rfl (y_assign rfl) rfl rfl rfl rfl ?_); refine dEnd ?_)
        repeat (first | refine seq_ ?_ | refine region_ ?_ | refine stepY (y_move rfl) rfl ?_)
        refine callW_ Tryz.func89 rfl rfl hsub rfl rfl rfl (by repeat (first | exact .refl _ | apply Les.cons | exact .nil)) rfl ?_
        repeat (first | refine nil_ ?_ | refine block_ ?_ | refine stepY (y_assign rfl) rfl ?_)
        refine loop_ (α := Nat) (fun x => ([(8, .p (I n)), (9, .vec 46), (10, .p (M V)), (11, .p (I (k + 2))), (12, .vec 57), (13, .p (I i)), (14, .vw 46 i (k + 3)), (15, .p (UU x)), (16, .p (Bo (decide (W < x * V))))], [(46, .vi 65 .u32 (padd (ln a + 1) (lo + B ^ i * win W V (k + 3) x))), (57, .vi 65 .u32 (dz (i + 1) m (A / V)))])) (fun x => W / V ≤ x ∧ x < B) id g hg ?_ ?_ ?_
        · (repeat (first | exact sub_nil | refine sub_cons rfl ?_))
        · (repeat (first | exact subH_nil | refine subH_cons rfl ?_))
        intro x ⟨hx1, hx2⟩
        by_cases hov : W < x * V
        · rw [show decide (W < x * V) = true from decide_eq_true hov]
          have hx0 : x ≠ 0 := by intro e; subst e; simp at hov
          obtain ⟨x', rfl⟩ : ∃ x', x = x' + 1 := ⟨x - 1, by omega⟩
          have hx3 : W / V ≤ x' := by
            rcases Nat.lt_or_ge x' (W / V) with h | h
            · exfalso
              have h2 : (x' + 1) * V ≤ W / V * V := Nat.mul_le_mul_right _ h
              have h3 := Nat.div_mul_le_self W V
              omega
            · exact h
          have hxV : (x' + 1) * V ≤ W + B ^ (k + 3) := by
            have : (x' + 1) * V ≤ (B - 1) * V := Nat.mul_le_mul_right _ (by omega)
            have h5 : B ^ (k + 2 + 1) = B ^ (k + 3) := rfl
            omega
          obtain ⟨hw1, hw2⟩ := win_back hov hxV hW
          have hres := restore_w (limbs V) (wf_limbs V) (ln a + 1) lo i (k + 3) (win W V (k + 3) (x' + 1)) (by omega) (by omega) hlo (win_lt _ _ _ _) (by rw [val_limbs]; exact Nat.lt_trans hn2 (Nat.pow_lt_pow_right (by decide) (by omega)))
          have hdec : decide (B ^ (k + 3) ≤ win W V (k + 3) (x' + 1) + V) = !decide (W < x' * V) := by rw [Bool.eq_iff_iff, decide_eq_true_iff, hw2]; simp
          rw [val_limbs, hw1, hdec] at hres
          unfold B at hx2
          repeat (first | refine seq_ ?_ | refine region_ ?_ | refine nil_ ?_ | refine skip_ ?_ | refine block_ ?_ | refine cond_t rfl ?_ | refine stepY (y_move rfl) rfl ?_ | refine stepY (y_assign rfl) rfl ?_ | refine stepY (y_binn rfl rfl rfl (by simp only [InK, loK, hiK]; omega)) rfl ?_)
          refine callW_ Tryz.func90 rfl rfl hres rfl rfl rfl (by repeat (first | exact .refl _ | apply Les.cons | exact .nil)) rfl ?_
          repeat (first | refine nil_ ?_ | refine stepY (y_assign rfl) rfl ?_ | refine stepY (y_not rfl) rfl ?_)
          rw [Bool.not_not]
          refine ⟨x', ⟨hx3, by unfold B; omega⟩, Nat.lt_succ_self x', ?_, ?_⟩ <;> (repeat (first | exact sub_nil | exact subH_nil | refine sub_cons rfl ?_ | refine subH_cons rfl ?_ | refine sub_conse rfl (by (congr 3; omega)) ?_))
        · rw [show decide (W < x * V) = false from decide_eq_false hov]
          have hxe : x = W / V := by
            refine Nat.le_antisymm ?_ hx1
            rw [Nat.le_div_iff_mul_le hV0]; omega
          subst hxe
          have hwe : win W V (k + 3) (W / V) = W % V := win_end hW
          rw [hwe]
          have hq := hD.hq
          have hdq := hD.dq
          have hnx := hD.nx
          unfold B at hq
          generalize W / V = qq at *
          repeat (first | refine seq_ ?_ | refine region_ ?_ | refine nil_ ?_ | refine exit_ ?_ | refine cond_f rfl ?_ | refine stepY (y_move rfl) rfl ?_ | refine stepY (y_assign rfl) rfl ?_ | refine stepY (y_convn rfl (by simp only [InK, loK, hiK]; omega)) rfl ?_ | refine stepY (y_index_vi rfl rfl rfl (by omega) (by omega)) rfl ?_ | refine stepY (y_binn rfl rfl rfl (by simp only [InK, loK, hiK]; omega)) rfl ?_ | refine stepE (e_store_vi rfl rfl rfl (by omega) (by omega)) ?_)
          rw [Int.toNat_natCast, ← hdq, dz_set (by omega)]
          refine ⟨i, by omega, Nat.lt_succ_self i, ?_, ?_⟩
          · (repeat (first | exact sub_nil | refine sub_cons rfl ?_))
          · rw [hnx]; (repeat (first | exact subH_nil | refine subH_cons rfl ?_))
end Go.Av

set_option maxHeartbeats 4000000
set_option maxRecDepth 100000
set_option linter.unusedVariables false
set_option linter.unusedSimpArgs false
namespace Go.Av
open Go Go.Proofs
/-- a whole number with a sign -/
def sgn (neg : Bool) (n : Nat) : Int := if neg then -(n : Int) else n
theorem sgn_abs (neg : Bool) (n : Nat) : (sgn neg n).natAbs = n := by unfold sgn; split <;> omega
theorem sgn_neg (neg : Bool) (n : Nat) : decide (sgn neg n < 0) = (neg && decide (0 < n)) := by
  unfold sgn; cases neg <;> simp <;> omega
theorem sgn_zero (neg : Bool) : sgn neg 0 = 0 := by unfold sgn; split <;> rfl
abbrev AV (neg : Bool) (l : List Int) : PV := .ag [Bo neg, Li l]
abbrev IV (z : Int) : PV := .ag [Bo (decide (z < 0)), M z.natAbs]
abbrev FIV (z : Int) : PV := .ag [Bo (decide (z < 0)), FM z.natAbs]
abbrev E_ (n : Int) : PV := .v (.int .i64 n)
theorem FIV_pos (n : Nat) : FIV (n : Int) = .ag [Bo false, FM n] := by
  unfold FIV; rw [Int.natAbs_natCast, show decide ((n : Int) < 0) = false from decide_eq_false (by omega)]
theorem FIV_neg {n : Nat} (h : 0 < n) : FIV (-(n : Int)) = .ag [Bo true, FM n] := by
  unfold FIV; rw [Int.natAbs_neg, Int.natAbs_natCast, show decide (-(n : Int) < 0) = true from decide_eq_true (by omega)]
/-- what is returned if the result is not too long -/
def resI (z : Int) : PV := if ln z.natAbs ≤ 512 then .tp [FIV z, E_ 0] else .tp [FIV 0, E_ 4]

/-! slices.Clone -/
theorem Clone_c (l : List Int) (hl : l.length < 4294967296) : Con Tryz.prog 62 [Li l] (FLi l) := by
  refine con_of Tryz.func62 rfl rfl rfl rfl rfl ?_
  by_cases h : 0 < l.length
  · repeat (first | refine seq_ ?_ | refine region_ ?_ | refine nil_ ?_ | refine stepY (y_move rfl) rfl ?_ | refine stepY (y_assign rfl) rfl ?_)
    refine stepY (y_nil_ne rfl h) rfl ?_
    repeat (first | refine seq_ ?_ | refine region_ ?_ | refine nil_ ?_ | refine skip_ ?_ | refine cond_f rfl ?_ | refine stepY (y_move rfl) rfl ?_ | refine stepE (e_bs_vi (k := .u32) rfl rfl rfl rfl rfl) ?_)
    refine stepE (e_app_vi rfl rfl rfl (src_si rfl) (by simp only [List.length_nil]; omega) rfl rfl) ?_
    repeat (first | refine nil_ ?_ | refine ret_ ?_ | refine stepY (y_assign rfl) rfl ?_)
    rw [List.nil_append]
    ((apply fin_r); (repeat (first | exact .nil | exact .vi rfl rfl rfl | apply ResL.cons)); (repeat (exact .refl _)))
  · obtain rfl : l = [] := List.eq_nil_of_length_eq_zero (by omega)
    repeat (first | refine seq_ ?_ | refine region_ ?_ | refine nil_ ?_ | refine stepY (y_move rfl) rfl ?_ | refine stepY (y_assign rfl) rfl ?_)
    refine stepNil rfl rfl (fun b => ?_)
    cases b
    · repeat (first | refine seq_ ?_ | refine region_ ?_ | refine nil_ ?_ | refine skip_ ?_ | refine cond_f rfl ?_ | refine stepY (y_move rfl) rfl ?_ | refine stepE (e_bs_vi (k := .u32) rfl rfl rfl rfl rfl) ?_)
      refine stepE (e_app_vi rfl rfl rfl (src_si rfl) (by simp) rfl rfl) ?_
      repeat (first | refine nil_ ?_ | refine ret_ ?_ | refine stepY (y_assign rfl) rfl ?_)
      ((apply fin_r); (repeat (first | exact .nil | exact .vi rfl rfl rfl | apply ResL.cons)); (repeat (exact .refl _)))
    · repeat (first | refine seq_ ?_ | refine region_ ?_ | refine nil_ ?_ | refine ret_ ?_ | refine cond_t rfl ?_ | refine stepY (y_assign rfl) rfl ?_)
      ((apply fin_r); (repeat (first | exact .nil | exact .tmp rfl | apply ResL.cons)); (repeat (exact .nil _ _)))

/-! bigint.made, bigint.result -/
theorem made_c (neg : Bool) (l : List Int) (hw : wf l) (hl : l.length < 4294967296) : Con Tryz.prog 71 [Bo neg, Li l] (FIV (sgn neg (val l))) := by
  refine con_of Tryz.func71 rfl rfl rfl rfl rfl ?_
  have ht := Trim_c l hw
  have hlv : ln (val l) < 4294967296 := by have := ln_le.2 (val_lt hw); omega
  have hc := Clone_c (limbs (val l)) (by rw [limbs_length]; exact hlv)
  cases neg with
  | false =>
    repeat (first | refine seq_ ?_ | refine region_ ?_ | refine nil_ ?_ | refine stepY (y_move rfl) rfl ?_ | refine stepE (e_alloc rfl rfl rfl) ?_)
    refine call_ Tryz.func43 rfl rfl ht rfl (by repeat (first | exact .refl _ | apply Les.cons | exact .nil)) rfl ?_
    refine call_ Tryz.func62 rfl rfl hc rfl (by repeat (first | exact .refl _ | apply Les.cons | exact .nil)) rfl ?_
    repeat (first | refine seq_ ?_ | refine region_ ?_ | refine nil_ ?_ | refine ret_ ?_ | refine guard_f rfl rfl rfl rfl ?_ | refine stepY (y_move rfl) rfl ?_ | refine stepY (y_assign rfl) rfl ?_ | refine stepY (y_pick_f rfl rfl) rfl ?_ | refine stepY (y_build rfl rfl rfl) rfl ?_ | refine stepE (e_store rfl rfl rfl rfl rfl rfl rfl) ?_)
    have e : sgn false (val l) = (val l : Int) := rfl
    rw [e, FIV_pos]
    ((apply fin_r); (repeat (first | exact .nil | exact .agg rfl rfl rfl | apply ResL.cons)); (repeat (exact .refl _)))
  | true =>
    by_cases h0 : 0 < val l
    · have h1 : (0 : Int) < ((limbs (val l)).length : Int) := by rw [limbs_length]; have := ln_pos.2 h0; omega
      repeat (first | refine seq_ ?_ | refine region_ ?_ | refine nil_ ?_ | refine stepY (y_move rfl) rfl ?_ | refine stepE (e_alloc rfl rfl rfl) ?_)
      refine call_ Tryz.func43 rfl rfl ht rfl (by repeat (first | exact .refl _ | apply Les.cons | exact .nil)) rfl ?_
      refine call_ Tryz.func62 rfl rfl hc rfl (by repeat (first | exact .refl _ | apply Les.cons | exact .nil)) rfl ?_
      repeat (first | refine seq_ ?_ | refine region_ ?_ | refine nil_ ?_ | refine ret_ ?_ | refine guard_t rfl rfl rfl ?_ | refine stepY (y_move rfl) rfl ?_ | refine stepY (y_assign rfl) rfl ?_ | refine stepY (y_len_si rfl) rfl ?_ | refine stepY (y_pick_t rfl rfl) rfl ?_ | refine stepY (y_build rfl rfl rfl) rfl ?_ | refine stepY (y_cmpT rfl rfl rfl (by omega)) rfl ?_ | refine stepE (e_store rfl rfl rfl rfl rfl rfl rfl) ?_)
      have e : sgn true (val l) = -(val l : Int) := rfl
      rw [e, FIV_neg h0]
      ((apply fin_r); (repeat (first | exact .nil | exact .agg rfl rfl rfl | apply ResL.cons)); (repeat (exact .refl _)))
    · have h2 : val l = 0 := by omega
      rw [h2] at ht hc ⊢
      have h1 : ¬ (0 : Int) < ((limbs 0).length : Int) := by decide
      repeat (first | refine seq_ ?_ | refine region_ ?_ | refine nil_ ?_ | refine stepY (y_move rfl) rfl ?_ | refine stepE (e_alloc rfl rfl rfl) ?_)
      refine call_ Tryz.func43 rfl rfl ht rfl (by repeat (first | exact .refl _ | apply Les.cons | exact .nil)) rfl ?_
      refine call_ Tryz.func62 rfl rfl hc rfl (by repeat (first | exact .refl _ | apply Les.cons | exact .nil)) rfl ?_
      repeat (first | refine seq_ ?_ | refine region_ ?_ | refine nil_ ?_ | refine ret_ ?_ | refine guard_t rfl rfl rfl ?_ | refine stepY (y_move rfl) rfl ?_ | refine stepY (y_assign rfl) rfl ?_ | refine stepY (y_len_si rfl) rfl ?_ | refine stepY (y_pick_t rfl rfl) rfl ?_ | refine stepY (y_build rfl rfl rfl) rfl ?_ | refine stepY (y_cmpF rfl rfl rfl (by omega)) rfl ?_ | refine stepE (e_store rfl rfl rfl rfl rfl rfl rfl) ?_)
      ((apply fin_r); (repeat (first | exact .nil | exact .agg rfl rfl rfl | apply ResL.cons)); (repeat (exact .refl _)))

theorem resI_ok {z : Int} (h : ln z.natAbs ≤ 512) : resI z = .tp [FIV z, E_ 0] := by unfold resI; rw [if_pos h]
theorem resI_no {z : Int} (h : ¬ ln z.natAbs ≤ 512) : resI z = .tp [FIV 0, E_ 4] := by unfold resI; rw [if_neg h]
theorem result_c (neg : Bool) (l : List Int) (hw : wf l) (hl : l.length < 4294967296) : Con Tryz.prog 74 [Bo neg, Li l] (resI (sgn neg (val l))) := by
  refine con_of Tryz.func74 rfl rfl rfl rfl rfl ?_
  have hm := made_c neg l hw hl
  have hlen : ((limbs (sgn neg (val l)).natAbs).length : Int) = ln (sgn neg (val l)).natAbs := by rw [limbs_length]
  generalize sgn neg (val l) = z at *
  by_cases h : ln z.natAbs ≤ 512
  · rw [resI_ok h]
    repeat (first | refine seq_ ?_ | refine region_ ?_ | refine nil_ ?_ | refine stepY (y_move rfl) rfl ?_ | refine stepY (y_assign rfl) rfl ?_ | refine stepE (e_alloc rfl rfl rfl) ?_)
    refine call_ Tryz.func71 rfl rfl hm rfl (by repeat (first | exact .refl _ | apply Les.cons | exact .nil)) rfl ?_
    repeat (first | refine seq_ ?_ | refine region_ ?_ | refine nil_ ?_ | refine skip_ ?_ | refine ret_ ?_ | refine cond_f rfl ?_ | refine stepY (y_assign rfl) rfl ?_ | (first | refine stepY (y_load1 rfl rfl rfl) rfl ?_ | refine stepY (y_loadA rfl rfl rfl) rfl ?_) | refine stepY (y_fieldAddr rfl) rfl ?_ | refine stepY (y_len_si rfl) rfl ?_ | refine stepY (y_cmpF rfl rfl rfl (by omega)) rfl ?_ | refine stepE (e_alloc rfl rfl rfl) ?_ | refine stepE (e_store rfl rfl rfl rfl rfl rfl rfl) ?_)
    ((apply fin_r); (repeat (first | exact .nil | exact .tmp rfl | exact .agg rfl rfl rfl | apply ResL.cons)); (repeat (exact .refl _)))
  · rw [resI_no h]
    repeat (first | refine seq_ ?_ | refine region_ ?_ | refine nil_ ?_ | refine stepY (y_move rfl) rfl ?_ | refine stepY (y_assign rfl) rfl ?_ | refine stepE (e_alloc rfl rfl rfl) ?_)
    refine call_ Tryz.func71 rfl rfl hm rfl (by repeat (first | exact .refl _ | apply Les.cons | exact .nil)) rfl ?_
    repeat (first | refine seq_ ?_ | refine region_ ?_ | refine nil_ ?_ | refine ret_ ?_ | refine cond_t rfl ?_ | refine stepY (y_assign rfl) rfl ?_ | refine stepY (y_load1 rfl rfl rfl) rfl ?_ | refine stepY (y_fieldAddr rfl) rfl ?_ | refine stepY (y_len_si rfl) rfl ?_ | refine stepY (y_build rfl rfl rfl) rfl ?_ | refine stepY (y_cmpT rfl rfl rfl (by omega)) rfl ?_ | refine stepE (e_alloc rfl rfl rfl) ?_ | refine stepE (e_store rfl rfl rfl rfl rfl rfl rfl) ?_)
    ((apply fin_r); (repeat (first | exact .nil | exact .tmp rfl | exact .agg rfl rfl rfl | apply ResL.cons)); (repeat (first | exact .refl _ | exact .nil _ _ | apply Le.ag | apply Le.tp | apply Les.cons | exact .nil)))

/-! barscanref02.Trim, signed, limit -/
theorem RTrim_c (l : List Int) (hw : wf l) (hl : l.length < 4294967296) : Con Tryz.prog 101 [Li l] (FM (val l)) := by
  refine con_of Tryz.func101 rfl rfl rfl rfl rfl ?_
  repeat (first | refine seq_ ?_ | refine region_ ?_ | refine nil_ ?_ | refine block_ ?_ | refine stepY (y_move rfl) rfl ?_ | refine stepY (y_assign rfl) rfl ?_ | refine stepY (y_len_si rfl) rfl ?_)
  refine loop_ (α := Nat) (fun k => ([(0, .p (Li l)), (3, .p (I k))], [])) (fun k => k ≤ l.length ∧ val (l.take k) = val l) id l.length ⟨Nat.le_refl _, by simp⟩ ?_ ?_ ?_
  · (repeat (first | exact sub_nil | refine sub_cons rfl ?_))
  · (repeat (exact subH_nil))
  intro k ⟨hk, hv⟩
  have hlen : (l.take k).length = k := by simp; omega
  have hwk : wf (l.take k) := fun x hx => hw x (List.mem_of_mem_take hx)
  have hfin : (k = 0 ∨ rd l ((k : Int) - 1) ≠ 0) → FM (val l) = FLi (l.take k) := by
    intro h
    unfold FM
    rw [← hv, limbs_val hwk]
    rcases h with h | h
    · subst h; exact .inl rfl
    · by_cases h0 : k = 0
      · subst h0; exact .inl rfl
      · right
        rw [hlen, List.getD_eq_getElem?_getD, List.getElem?_take_of_lt (by omega), ← List.getD_eq_getElem?_getD]
        unfold rd at h
        rwa [show ((k : Int) - 1).toNat = k - 1 by omega] at h
  by_cases h0 : (0 : Int) < (k : Int)
  · by_cases h1 : rd l ((k : Int) - 1) = 0
    · repeat (first | refine seq_ ?_ | refine region_ ?_ | refine nil_ ?_ | refine skip_ ?_ | refine block_ ?_ | refine cond_t rfl ?_ | refine guard_t rfl rfl rfl ?_ | refine stepY (y_move rfl) rfl ?_ | refine stepY (y_assign rfl) rfl ?_ | refine stepY (y_load_rc1 rfl rfl) rfl ?_ | refine stepY (y_pick_t rfl rfl) rfl ?_ | refine stepY (y_index_si rfl rfl (by omega) (by omega)) rfl ?_ | refine stepY (y_binn rfl rfl rfl (by simp only [InK, loK, hiK]; omega)) rfl ?_ | refine stepY (y_cmpT rfl rfl rfl (by omega)) rfl ?_ | refine stepY (y_cmpT rfl rfl rfl (by omega)) rfl ?_)
      obtain ⟨j, rfl⟩ : ∃ j, k = j + 1 := ⟨k - 1, by omega⟩
      refine ⟨j, ⟨by omega, ?_⟩, Nat.lt_succ_self j, ?_, ?_⟩
      · rw [← hv, List.take_add_one, val_append, List.getElem?_eq_getElem (by omega)]
        unfold rd at h1
        rw [show (((j + 1 : Nat) : Int) - 1).toNat = j by omega, List.getD_eq_getElem?_getD, List.getElem?_eq_getElem (by omega)] at h1
        simp only [Option.getD_some] at h1
        simp [h1, val]
      · (repeat (first | exact sub_nil | refine sub_cons rfl ?_ | refine sub_conse rfl (by (congr 3; omega)) ?_))
      · (repeat (exact subH_nil))
    · rw [hfin (.inr h1)]
      have ht : (l.take k).length ≤ 4294967296 := by omega
      repeat (first | refine seq_ ?_ | refine region_ ?_ | refine nil_ ?_ | refine exit_ ?_ | refine cond_f rfl ?_ | refine guard_t rfl rfl rfl ?_ | refine stepY (y_move rfl) rfl ?_ | refine stepY (y_load_rc1 rfl rfl) rfl ?_ | refine stepY (y_pick_t rfl rfl) rfl ?_ | refine stepY (y_index_si rfl rfl (by omega) (by omega)) rfl ?_ | refine stepY (y_slice_si_h rfl rfl (by omega) (by omega)) rfl ?_ | refine stepY (y_binn rfl rfl rfl (by simp only [InK, loK, hiK]; omega)) rfl ?_ | refine stepY (y_cmpF rfl rfl rfl (by omega)) rfl ?_ | refine stepY (y_cmpT rfl rfl rfl (by omega)) rfl ?_ | refine stepE (e_bs_vi (k := .u32) rfl rfl rfl rfl rfl) ?_)
      rw [Int.toNat_natCast]
      refine stepE (e_app_vi rfl rfl rfl (src_si rfl) (by simp only [List.length_nil]; omega) rfl rfl) ?_
      repeat (first | refine nil_ ?_ | refine ret_ ?_ | refine stepY (y_assign rfl) rfl ?_)
      rw [List.nil_append]
      ((apply fin_r); (repeat (first | exact .nil | exact .vi rfl rfl rfl | apply ResL.cons)); (repeat (exact .refl _)))
  · rw [hfin (.inl (by omega))]
    have ht : (l.take k).length ≤ 4294967296 := by omega
    repeat (first | refine seq_ ?_ | refine region_ ?_ | refine nil_ ?_ | refine exit_ ?_ | refine cond_f rfl ?_ | refine guard_f rfl rfl rfl rfl ?_ | refine stepY (y_move rfl) rfl ?_ | refine stepY (y_pick_f rfl rfl) rfl ?_ | refine stepY (y_slice_si_h rfl rfl (by omega) (by omega)) rfl ?_ | refine stepY (y_cmpF rfl rfl rfl (by omega)) rfl ?_ | refine stepE (e_bs_vi (k := .u32) rfl rfl rfl rfl rfl) ?_)
    rw [Int.toNat_natCast]
    refine stepE (e_app_vi rfl rfl rfl (src_si rfl) (by simp only [List.length_nil]; omega) rfl rfl) ?_
    repeat (first | refine nil_ ?_ | refine ret_ ?_ | refine stepY (y_assign rfl) rfl ?_)
    rw [List.nil_append]
    ((apply fin_r); (repeat (first | exact .nil | exact .vi rfl rfl rfl | apply ResL.cons)); (repeat (exact .refl _)))
theorem signed_c (neg : Bool) (l : List Int) (hw : wf l) (hl : l.length < 4294967296) : Con Tryz.prog 96 [Bo neg, Li l] (FIV (sgn neg (val l))) := by
  refine con_of Tryz.func96 rfl rfl rfl rfl rfl ?_
  have ht := RTrim_c l hw hl
  have hc := ht
  cases neg with
  | false =>
    repeat (first | refine seq_ ?_ | refine region_ ?_ | refine nil_ ?_ | refine stepY (y_move rfl) rfl ?_ | refine stepE (e_alloc rfl rfl rfl) ?_)
    refine call_ Tryz.func101 rfl rfl ht rfl (by repeat (first | exact .refl _ | apply Les.cons | exact .nil)) rfl ?_
    repeat (first | refine seq_ ?_ | refine region_ ?_ | refine nil_ ?_ | refine ret_ ?_ | refine guard_f rfl rfl rfl rfl ?_ | refine stepY (y_move rfl) rfl ?_ | refine stepY (y_assign rfl) rfl ?_ | refine stepY (y_pick_f rfl rfl) rfl ?_ | refine stepY (y_build rfl rfl rfl) rfl ?_ | refine stepE (e_store rfl rfl rfl rfl rfl rfl rfl) ?_)
    have e : sgn false (val l) = (val l : Int) := rfl
    rw [e, FIV_pos]
    ((apply fin_r); (repeat (first | exact .nil | exact .agg rfl rfl rfl | apply ResL.cons)); (repeat (exact .refl _)))
  | true =>
    by_cases h0 : 0 < val l
    · have h1 : (0 : Int) < ((limbs (val l)).length : Int) := by rw [limbs_length]; have := ln_pos.2 h0; omega
      repeat (first | refine seq_ ?_ | refine region_ ?_ | refine nil_ ?_ | refine stepY (y_move rfl) rfl ?_ | refine stepE (e_alloc rfl rfl rfl) ?_)
      refine call_ Tryz.func101 rfl rfl ht rfl (by repeat (first | exact .refl _ | apply Les.cons | exact .nil)) rfl ?_
      repeat (first | refine seq_ ?_ | refine region_ ?_ | refine nil_ ?_ | refine ret_ ?_ | refine guard_t rfl rfl rfl ?_ | refine stepY (y_move rfl) rfl ?_ | refine stepY (y_assign rfl) rfl ?_ | refine stepY (y_len_si rfl) rfl ?_ | refine stepY (y_pick_t rfl rfl) rfl ?_ | refine stepY (y_build rfl rfl rfl) rfl ?_ | refine stepY (y_cmpT rfl rfl rfl (by omega)) rfl ?_ | refine stepE (e_store rfl rfl rfl rfl rfl rfl rfl) ?_)
      have e : sgn true (val l) = -(val l : Int) := rfl
      rw [e, FIV_neg h0]
      ((apply fin_r); (repeat (first | exact .nil | exact .agg rfl rfl rfl | apply ResL.cons)); (repeat (exact .refl _)))
    · have h2 : val l = 0 := by omega
      rw [h2] at ht hc ⊢
      have h1 : ¬ (0 : Int) < ((limbs 0).length : Int) := by decide
      repeat (first | refine seq_ ?_ | refine region_ ?_ | refine nil_ ?_ | refine stepY (y_move rfl) rfl ?_ | refine stepE (e_alloc rfl rfl rfl) ?_)
      refine call_ Tryz.func101 rfl rfl ht rfl (by repeat (first | exact .refl _ | apply Les.cons | exact .nil)) rfl ?_
      repeat (first | refine seq_ ?_ | refine region_ ?_ | refine nil_ ?_ | refine ret_ ?_ | refine guard_t rfl rfl rfl ?_ | refine stepY (y_move rfl) rfl ?_ | refine stepY (y_assign rfl) rfl ?_ | refine stepY (y_len_si rfl) rfl ?_ | refine stepY (y_pick_t rfl rfl) rfl ?_ | refine stepY (y_build rfl rfl rfl) rfl ?_ | refine stepY (y_cmpF rfl rfl rfl (by omega)) rfl ?_ | refine stepE (e_store rfl rfl rfl rfl rfl rfl rfl) ?_)
      ((apply fin_r); (repeat (first | exact .nil | exact .agg rfl rfl rfl | apply ResL.cons)); (repeat (exact .refl _)))
end Go.Av

set_option maxRecDepth 100000
set_option linter.unusedVariables false
set_option linter.unusedSimpArgs false
/-! What a row says of an argument, as an abstract value. -/
namespace Go.Av
open Go Go.Proofs Go.ChangeShapes Go.WideShapes Go.ChangeAt Go.RowKit Go.Joins
section
variable {H : Type} {enc : TypeId × Value → H} {W : World} {base : Nat}
def Wide (k : IntKind) (l : List Int) : Prop := ∀ n ∈ l, (Lit.int k n).wf = true
theorem ints_rel {P : Program} {t e : TypeId} {k : IntKind} {v : Value} {fuel : Nat} {x : DataW H × List MemPlace} (ht : P.underlying t = some (.slice e)) (he : P.underlying e = some (.int k)) (hc : P.cellsOf e = 1) (hB : 0 < P.bytesOf e)
    (h : DataW.trod enc P W 0 (fun _ => true) true fuel t [v] = some x) (hb : ∀ n ∈ x.1.weights P t, n ≤ reachBytes) : ∃ l, Wide k l ∧ Rel W (fun _ b => b < W.heap.size ∧ True) (.si false k l) v := by
  rcases open_ints ht he hc h with ⟨hcs, hx⟩ | ⟨a, len, cap, zs, hcs, _, hl, hm, hz, hx, hcell, hw⟩
  · simp at hcs
    subst hcs
    refine ⟨[], by simp [Wide], ?_⟩
    simp only [Rel]
    exact ⟨none, 0, rfl, by simp, by simp [maxLen], by simp [lim], fun h => by simp at h⟩
  · simp at hcs
    subst hcs
    simp only [if_true] at hz
    have hlen : (zs.take len).length = len := by rw [List.length_take]; omega
    refine ⟨zs.take len, fun n hn => hw n (List.mem_of_mem_take hn), ?_⟩
    have hwt : cap * P.bytesOf e ≤ reachBytes := by
      refine hb _ ?_
      rw [hx]
      simp only [DataW.weights, ht, lits, List.length_map, List.length_take, List.length_drop, List.mem_cons]
      refine .inl ?_
      congr 1
      omega
    have hcap : cap ≤ reachBytes := Nat.le_trans (Nat.le_mul_of_pos_right _ hB) hwt
    have hrb : reachBytes = 140737488351232 := rfl
    simp only [Rel]
    refine ⟨some a, cap, by rw [hlen], by omega, hm, by simp only [lim]; omega, fun h0 => ?_⟩
    have hz0 : 0 < zs.length := by omega
    have h00 := hcell 0 hz0
    obtain ⟨b, o, s⟩ := a
    have hs : s = none := by
      cases s with
      | none => rfl
      | some q =>
        exfalso
        simp only [Addr.add, if_true, World.cell?] at h00
        split at h00 <;> simp at h00
    subst hs
    refine ⟨b, o, rfl, ⟨⟨block_lt_of_cell (a := ⟨b, o, none⟩) (by simpa [Addr.add] using h00), trivial⟩, fun h => by cases h⟩, fun j u hj => ?_⟩
    have hj1 : j < (zs.take len).length := (List.getElem?_eq_some_iff.1 hj).1
    have hj2 : zs[j]? = some u := by rwa [List.getElem?_take_of_lt (by omega)] at hj
    have := hcell j (by omega)
    rw [Addr.add_lit] at this
    rw [this]
    simp [List.getD, hj2]
theorem wide_wf {l : List Int} (h : Wide .u32 l) : wf l := by
  intro x hx
  have := h x hx
  simp only [Lit.wf, Bool.and_eq_true, decide_eq_true_eq] at this
  have e1 : IntKind.min .u32 = 0 := rfl
  have e2 : IntKind.max .u32 = 4294967295 := rfl
  rw [e1, e2] at this
  omega
/-- An integer of the suite, as an argument: any sign, any limbs. -/
theorem arg_iv {v : Value} {d : DataW H} {p : List MemPlace} {ts : List TypeId} {ds : List (DataW H)} {j : Nat} (hsz : (DataW.weightsEach Tryz.prog ts ds).all (· ≤ reachBytes) = true) (ht : ts[j]? = some 24) (hd : ds[j]? = some d)
    (hval : Value.okWide Tryz.prog W .any base 24 v) (h : DataW.Trod enc Tryz.prog W 0 (fun _ => true) true 24 v d p) : ∃ q l, wf l ∧ Rel W (fun _ b => b < W.heap.size ∧ True) (AV q l) v := by
  obtain ⟨v0, v1, y0, y1, n, rfl, rfl, rfl, h0, h1⟩ := open_agg2 Tryz.underlying24 (by kernel_rfl) (by kernel_rfl) hval h
  obtain ⟨b, hb0, rfl⟩ := DataW.trod_bool Tryz.underlying4 h0
  have hall : ∀ m ∈ y1.1.weights Tryz.prog 22, m ≤ reachBytes := fun m hm => by
    have := List.all_eq_true.1 hsz m (DataW.weights_mem_each ht hd m (by simp [DataW.weights, DataW.weightsEach, Tryz.underlying24, hm]))
    simpa using this
  obtain ⟨l, hl, hr⟩ := ints_rel Tryz.underlying22 Tryz.underlying65 (by kernel_rfl) (by decide +kernel) h1 hall
  simp at hb0
  subst hb0
  refine ⟨b, l, wide_wf hl, ?_⟩
  simp only [Rel, Rels] at hr ⊢
  exact ⟨[.bool b, v1], rfl, _, _, rfl, rfl, _, _, rfl, hr, rfl⟩
theorem min_lo (k : IntKind) : k.min = loK k ∧ k.max = hiK k := by cases k <;> exact ⟨rfl, rfl⟩
theorem arg_num {P : Program} {t : TypeId} {k : IntKind} {v : Value} {d : DataW H} {p : List MemPlace} (hu : P.underlying t = some (.int k)) (hval : Value.okWide P W .any base t v) (h : DataW.Trod enc P W 0 (fun _ => true) true t v d p) :
    ∃ n, (loK k ≤ n ∧ n ≤ hiK k) ∧ Rel W (fun _ b => b < W.heap.size ∧ True) (.v (.int k n)) v := by
  obtain ⟨n, rfl, _, _, hw⟩ := open_int hu hval h
  simp only [Lit.wf, Bool.and_eq_true, decide_eq_true_eq] at hw
  rw [(min_lo k).1, (min_lo k).2] at hw
  exact ⟨n, hw, by simp only [Rel]⟩
theorem arg_str {v : Value} {d : DataW H} {p : List MemPlace} (hval : Value.okWide Tryz.prog W .any base 9 v) (h : DataW.Trod enc Tryz.prog W 0 (fun _ => true) true 9 v d p) :
    ∃ s, Rel W (fun _ b => b < W.heap.size ∧ True) (.v (.string s)) v := by
  obtain ⟨s, rfl, _⟩ := Go.ChangeMaps.open_string Tryz.underlying9 hval h
  exact ⟨s, by simp only [Rel]⟩
theorem arg_ints {v : Value} {d : DataW H} {p : List MemPlace} {ts : List TypeId} {ds : List (DataW H)} {j : Nat} (hsz : (DataW.weightsEach Tryz.prog ts ds).all (· ≤ reachBytes) = true) (ht : ts[j]? = some 96) (hd : ds[j]? = some d)
    (hval : Value.okWide Tryz.prog W .any base 96 v) (h : DataW.Trod enc Tryz.prog W 0 (fun _ => true) true 96 v d p) : ∃ l, Wide .i64 l ∧ Rel W (fun _ b => b < W.heap.size ∧ True) (.si false .i64 l) v := by
  obtain ⟨fuel, hf⟩ := h
  obtain ⟨a0, len0, cap0, rfl⟩ := okWide_slice Tryz.underlying96 hval
  have hall : ∀ m ∈ d.weights Tryz.prog 96, m ≤ reachBytes := fun m hm => by
    have := List.all_eq_true.1 hsz m (DataW.weights_mem_each ht hd m hm)
    simpa using this
  exact ints_rel Tryz.underlying96 Tryz.underlying3 (by kernel_rfl) (by decide +kernel) (by simpa [Value.cells] using hf) hall
end
end Go.Av

set_option linter.unusedVariables false
set_option linter.unusedSimpArgs false
namespace Go.Av
open Go Go.RowKit
section
variable {P : Program} {N : Nat} {E : Env} {H : Hp} {Q : Exit → Env → Hp → Prop} {ops : Array Oper} {rest : List Oper} {c : Code}
theorem y_maxl {x y : Operand} {t ty : TypeId} {k : IntKind} {a b : Int} (hx : evT E x = some (.p (.v (.int k a)))) (hy : evT E y = some (.p (.v (.int k b)))) (h : b ≤ a) : Yl P (.call { callee := .builtin .max, args := #[x, y], argTypes := #[t, t] }) ty E H (.p (.v (.int k a))) .no := by
  have := y_max (P := P) (t := t) (t' := t) (ty := ty) (H := H) hx hy
  have e : (if a < b then b else a) = a := by rw [if_neg (by omega)]
  first | rwa [e] at this | (have e2 : (if b < a then a else b) = a := by (split <;> omega); rwa [e2] at this)
theorem y_maxr {x y : Operand} {t ty : TypeId} {k : IntKind} {a b : Int} (hx : evT E x = some (.p (.v (.int k a)))) (hy : evT E y = some (.p (.v (.int k b)))) (h : a ≤ b) : Yl P (.call { callee := .builtin .max, args := #[x, y], argTypes := #[t, t] }) ty E H (.p (.v (.int k b))) .no := by
  have := y_max (P := P) (t := t) (t' := t) (ty := ty) (H := H) hx hy
  have e : (if a < b then b else a) = b := by split <;> omega
  first | rwa [e] at this | (have e2 : (if b < a then a else b) = b := by (split <;> omega); rwa [e2] at this)
theorem nil_rep {okA : Acc} {w0 : World} {ρ : Nat → Value} {tmps : Array Value} {w : World} (r : Rep okA w0 N ρ E H tmps w) {i : Nat} (e : TypeId) (k : IntKind) (hE : lk i E = some (.p (.v (.slice none 0 0)))) (hf : frE i E = true) (hN : Nat.blt i N = true) :
    Rep okA w0 N (upd ρ i (.slice none 0 0)) ((i, .vec i) :: E) ((i, .vi e k []) :: H) tmps w := by
  have hr := r.row_new (w' := w) (d := i) (m := .vi e k []) (y := .slice none 0 0) ⟨rfl, rfl, rfl, Nat.le_refl _, fun _ _ _ => rfl⟩ (fun b hb => by simp [blk] at hb) hf (pH_lt r hN) (fun _ => by
    simp only [RelB, List.length_nil]
    exact ⟨World.ownsRow_nil w _ e 1, by simp [lim]⟩)
  exact hr.set_env hE (fun y hy => by simp only [RelT, Rel] at hy ⊢; rw [upd_same]; exact hy)
/-- A nil slice is told as a row of the call's own. -/
theorem nil_C {i : Nat} (e : TypeId) (k : IntKind) (hE : lk i E = some (.p (.v (.slice none 0 0)))) (hf : frE i E = true) (hN : Nat.blt i N = true) (kk : Tr P N c ((i, .vec i) :: E) ((i, .vi e k []) :: H) Q) : Tr P N c E H Q := by
  unfold Tr at kk ⊢
  intro okA w0 ρ tmps w r
  exact kk okA w0 _ tmps w (nil_rep r e k hE hf hN)
theorem nil_L {i : Nat} (e : TypeId) (k : IntKind) (hE : lk i E = some (.p (.v (.slice none 0 0)))) (hf : frE i E = true) (hN : Nat.blt i N = true) (kk : TrL P N ops rest ((i, .vec i) :: E) ((i, .vi e k []) :: H) Q) : TrL P N ops rest E H Q := by
  unfold TrL at kk ⊢
  intro okA w0 ρ tmps w r
  exact kk okA w0 _ tmps w (nil_rep r e k hE hf hN)
theorem le_rep {okA : Acc} {w0 : World} {ρ : Nat → Value} {tmps : Array Value} {w : World} (r : Rep okA w0 N ρ E H tmps w) {i : Nat} {x y : PV} (hE : lk i E = some (.p x)) (h : Le x y) : Rep okA w0 N ρ ((i, .p y) :: E) H tmps w :=
  r.set_env hE (fun u hu => by simp only [RelT] at hu ⊢; exact Le.rel (fun b hb => okF.tag hb) h u hu)
/-- Less is told of a temporary. -/
theorem le_C {i : Nat} {x : PV} (y : PV) (hE : lk i E = some (.p x)) (h : Le x y) (kk : Tr P N c ((i, .p y) :: E) H Q) : Tr P N c E H Q := by
  unfold Tr at kk ⊢
  intro okA w0 ρ tmps w r
  exact kk okA w0 _ tmps w (le_rep r hE h)
theorem le_L {i : Nat} {x : PV} (y : PV) (hE : lk i E = some (.p x)) (h : Le x y) (kk : TrL P N ops rest ((i, .p y) :: E) H Q) : TrL P N ops rest E H Q := by
  unfold TrL at kk ⊢
  intro okA w0 ρ tmps w r
  exact kk okA w0 _ tmps w (le_rep r hE h)
theorem le_D {sx : Nat} {plan : List (Nat × Bool)} {ob ph : Bool} {St : List Nat} {i : Nat} {x : PV} (y : PV) (hE : lk i E = some (.p x)) (h : Le x y) (kk : TrD P N ops sx plan ob ph St ((i, .p y) :: E) H Q) : TrD P N ops sx plan ob ph St E H Q := by
  unfold TrD at kk ⊢
  intro okA w0 ρ tmps w w1 stab listed r
  exact kk okA w0 _ tmps w w1 stab listed (le_rep r hE h)
/-- A row of the call's own is from here on only read: in a region that draws its order. -/
theorem seal_D {sx : Nat} {plan : List (Nat × Bool)} {ob : Bool} {St : List Nat} {i h : Nat} {e : TypeId} {k : IntKind} {l : List Int} {H0 : Hp} (hE : lk i E = some (.vec h)) (hm : hk h H = some (.vi e k l)) (hp : pH h = false) (hd : delH h H = some H0) (kk : TrD P N ops sx plan ob false St ((i, .p (.si true k l)) :: E) H0 Q) : TrD P N ops sx plan ob false St E H Q := by
  unfold TrD at kk ⊢
  intro okA w0 ρ tmps w w1 stab listed r hpl h1 h2 h3 h4 h5
  obtain ⟨r1, hr⟩ := sealed_vi r hm hp hd
  exact kk okA w0 ρ tmps w w1 stab listed (r1.set_env hE (fun y hy => by simp only [RelT] at hy ⊢; subst hy; exact hr)) hpl h1
    (fun ho h' hs m b hm' hb => h2 ho h' hs m b (delH_spec hd h' m hm').2 hb) (fun ho h' m b hm' hn hb => h3 ho h' m b (delH_spec hd h' m hm').2 hn hb) (fun _ e => by cases e) h5
end
theorem Con.le {P : Program} {f : FuncId} {args : List PV} {r r' : PV} (h : Con P f args r) (hl : Le r r') : Con P f args r' := by
  unfold Con at h ⊢
  intro okA w vs hvs
  refine (h okA w vs hvs).mono fun e w' ⟨y, he, hr, hb⟩ => ⟨y, he, ?_, hb⟩
  exact Le.rel (fun b hb => ⟨hb.1, hb.2.elim .inl (fun h => absurd h.1 (by simp))⟩) hl y hr
end Go.Av

set_option maxHeartbeats 4000000
set_option maxRecDepth 100000
set_option linter.unusedVariables false
set_option linter.unusedSimpArgs false
namespace Go.Av
open Go Go.Proofs
theorem rd_bd {l : List Int} (h : wf l) (i : Nat) : 0 ≤ rd l i ∧ rd l i < 4294967296 := by rw [rd_dgk h i]; exact dg_bd _ _

theorem sum_lt {a b k : Nat} (ha : a < B ^ k) (hb : b < B ^ k) : a + b < B ^ (k + 1) := by
  rw [Nat.pow_succ]
  unfold B at *
  omega
/-! barscanref02.order -/
/-! barscanref02.plus -/
/-! barscanref02.minus -/
/-! barscanref02.times -/
end Go.Av
