/-
  HELPS of the law walks that ask nothing of one chapter (gathered out of the texts of chapter 1).
-/
import Derived.Test.YtkcagkcphobmfaaLg
import Derived.Test.YtkcagkcphobmfaaKa
import Derived.Test.YtkcagkcphobmfaaRc
import Derived.Test.YtkcagkcphobmfaaRe
import Derived.Test.YtkcagkcphobmfaaRow
set_option linter.unusedVariables false
set_option linter.unusedSimpArgs false
namespace Go.Proofs.Ytkcagkcphobmfaa
open Go.RowKit

theorem lit_rw (w : World) (x : Nat) (hx : x < B32) (t : TypeId) : Rw .u32 B32 (w.alloc (.cells #[.int .u32 (x : Int)] t)) (some ⟨w.heap.size, 0, none⟩) 1 1 [x] := by
  have h := (Blk.new w t (ints .u32 [x])).rw (B := B32) (by intro y hy; rw [List.mem_singleton.1 hy]; exact hx)
  exact h

theorem alloc_ext (w : World) (o : Obj) : Below w.heap.size w (w.alloc o) := (Below.refl _ _).alloc (Nat.le_refl _) _

theorem decide_true {p : Prop} [Decidable p] (h : p) : decide p = true := decide_eq_true h

theorem row_lt {w : World} {ao : Option Addr} {n c K : Nat} {xs : List Nat} (hr : Rw .u32 B32 w ao n c xs) (h : n ≤ K) : val xs < B32 ^ K :=
  Nat.lt_of_lt_of_le (val_lt hr.lt) (Nat.pow_le_pow_right (by decide) (by rw [hr.len]; exact h))

theorem prod_lt {a b m n : Nat} (ha : a < B32 ^ m) (hb : b < B32 ^ n) : a * b < B32 ^ (m + n) := by
  rw [Nat.pow_add]
  have hp : 0 < B32 ^ n := Nat.pow_pos (by decide)
  exact Nat.lt_of_le_of_lt (Nat.mul_le_mul_left a (Nat.le_of_lt hb)) (Nat.mul_lt_mul_of_pos_right ha hp)

theorem sum_lt {a b m n : Nat} (ha : a < B32 ^ m) (hb : b < B32 ^ n) : a + b < B32 ^ (m + n + 1) := by
  have h1 : B32 ^ m ≤ B32 ^ (m + n) := Nat.pow_le_pow_right (by decide) (by omega)
  have h2 : B32 ^ n ≤ B32 ^ (m + n) := Nat.pow_le_pow_right (by decide) (by omega)
  have h3 : B32 ^ (m + n + 1) = B32 ^ (m + n) * B32 := Nat.pow_succ _ _
  have h4 : B32 ^ (m + n) * 2 ≤ B32 ^ (m + n) * B32 := Nat.mul_le_mul_left _ (by decide)
  omega

theorem cmpZ_ge {a b : Int} : 0 ≤ cmpZ a b ↔ b ≤ a := by
  unfold cmpZ
  split
  · omega
  · split <;> omega

theorem bne_same (z : Int) : (z != z) = false := by simp

theorem cmpZ_bounds (a b : Int) : -1 ≤ cmpZ a b ∧ cmpZ a b ≤ 1 := by
  unfold cmpZ
  split
  · omega
  · split <;> omega

theorem cmpZ_neg (a b : Int) : cmpZ a b = - cmpZ b a := by
  unfold cmpZ
  by_cases h1 : a < b
  · rw [if_pos h1, if_neg (by omega), if_neg (by omega)]
  · by_cases h2 : a = b
    · rw [if_neg h1, if_pos h2, if_neg (by omega), if_pos h2.symm]; rfl
    · rw [if_neg h1, if_neg h2, if_pos (by omega)]; rfl

theorem cmpZ_lt {a b : Int} : cmpZ a b < 0 ↔ a < b := by
  unfold cmpZ
  split
  · omega
  · split <;> omega

theorem cmpZ_same (a : Int) : cmpZ a a = 0 := by unfold cmpZ; rw [if_neg (by omega), if_pos rfl]

theorem clampN_small {k : Nat} (h : k ≤ 65536) : clampN (k : Int) = k := by unfold clampN; omega

theorem len_lt {w : World} {k c N K : Nat} {ro : Option Addr} (h : Rw .u32 B32 w ro k c (limbs N)) (hN : N < B32 ^ K) : k ≤ K := by
  have := limbs_le hN
  rwa [h.len] at this

theorem pow_B32 (K : Nat) : B32 ^ K = 2 ^ (32 * K) := by rw [Nat.pow_mul]

theorem two_pow_lt {k K : Nat} (h : k < 32 * K) : 2 ^ k < B32 ^ K := by
  rw [pow_B32]; exact Nat.pow_lt_pow_right (by decide) h

theorem nbits_row {N K : Nat} (h : N < B32 ^ K) : nbits N ≤ 32 * K := nbits_le_of_lt (by rw [← pow_B32]; exact h)

theorem clampN_of {v : Int} {K : Nat} (h1 : 0 ≤ v) (h2 : v < (K : Int)) (hK : K ≤ 65536) : ∃ k : Nat, v = (k : Int) ∧ k < K ∧ clampN v = k := ⟨v.toNat, by omega, by omega, by unfold clampN; omega⟩

theorem shl_lt {a k K L : Nat} (ha : a < B32 ^ K) (hk : k < 32 * L) : a * 2 ^ k < B32 ^ (K + L) := by
  have h : 2 ^ k < B32 ^ L := two_pow_lt hk
  exact prod_lt ha h

theorem limbs_len_zero {w : World} {k c N : Nat} {ro : Option Addr} (h : Rw .u32 B32 w ro k c (limbs N)) : k = 0 ↔ N = 0 := by
  have h1 := h.len
  constructor
  · intro hk
    subst hk
    exact limbs_eq_nil.1 (List.length_eq_zero_iff.1 h1)
  · intro hN
    subst hN
    exact h1.symm

theorem int_beq (a : Int) : (a == a) = true := by simp

theorem nbits_beq {N : Nat} (h : N = 0) : ((nbits N : Int) == 0) = true := by subst h; rfl

theorem nbits_bne {N : Nat} (h : N ≠ 0) : ((nbits N : Int) == 0) = false := by
  have := nbits_pos h
  rw [beq_eq_false_iff_ne]; omega

theorem add_lt_pow {a b p q : Nat} (ha : a < B32 ^ p) (hb : b < B32 ^ q) (hq : q ≤ p) : a + b < B32 ^ (p + 1) := by
  have h2 : B32 ^ q ≤ B32 ^ p := Nat.pow_le_pow_right (by decide) hq
  have h3 : B32 ^ (p + 1) = B32 ^ p * B32 := Nat.pow_succ _ _
  have h4 : B32 ^ p * 2 ≤ B32 ^ p * B32 := Nat.mul_le_mul_left _ (by decide)
  omega

theorem len_le_pow {w : World} {k c N K : Nat} {ro : Option Addr} (h : Rw .u32 B32 w ro k c (limbs N)) (hN : N < B32 ^ K) : k ≤ K := by
  have := limbs_le hN
  rwa [h.len] at this

theorem bool_beq (b : Bool) : (b == b) = true := by cases b <;> rfl

theorem wrap_in (v : Int) : -9223372036854775808 ≤ IntKind.i64.wrap v ∧ IntKind.i64.wrap v ≤ 9223372036854775807 := by
  have e1 : (2 : Int) ^ IntKind.i64.bits = 18446744073709551616 := by decide
  have e2 : (2 : Int) ^ (IntKind.i64.bits - 1) = 9223372036854775808 := by decide
  have e3 : IntKind.i64.signed = true := rfl
  simp only [IntKind.wrap, e1, e2, e3, Bool.true_and, decide_eq_true_eq]
  split <;> omega

theorem modZ_le (u v : Nat) : modZ u v ≤ u := by
  unfold modZ
  split
  · omega
  · exact Nat.mod_le u v

theorem val_zeros (xs : List Nat) (k : Nat) : val (xs ++ List.replicate k 0) = val xs := valB_append_zeros B32 xs k

theorem zeros_lt {xs : List Nat} (h : ∀ x ∈ xs, x < B32) (k : Nat) : ∀ x ∈ xs ++ List.replicate k 0, x < B32 := by
  intro x hx
  rcases List.mem_append.1 hx with hx | hx
  · exact h x hx
  · rw [(List.mem_replicate.1 hx).2]; decide

end Go.Proofs.Ytkcagkcphobmfaa
