/-
  PLAIN LAW of chapter 5: Horner's rule over rationals and over whole numbers. No condition; nothing of the program.
-/
import Derived.Test.YtnnpjkalkfoolaaPa
set_option linter.unusedVariables false
set_option linter.unusedSimpArgs false
namespace Go.Proofs.Ytnnpjkalkfoolaa
open Go.RowKit

def linQ (q r : Rat) : Nat → Rat := fun i => if i = 0 then q else if i = 1 then r else 0
def oneQ (q : Rat) : Nat → Rat := fun i => if i = 0 then q else 0
theorem linQ_z {q r : Rat} : ∀ i, 2 ≤ i → linQ q r i = 0 := fun i hi => by unfold linQ; rw [if_neg (by omega), if_neg (by omega)]
theorem oneQ_z {q : Rat} : ∀ i, 1 ≤ i → oneQ q i = 0 := fun i hi => if_neg (by omega)
def hvQ (a : Nat → Rat) (q : Rat) (top : Nat) : Nat → Nat → Rat
  | 0 => fun _ => 0
  | s + 1 => faddQ (conv (hvQ a q top s) (linQ q (((1 : Int) : Int) : Rat))) (oneQ (a (top - 1 - s)))
theorem hvQ_z {a : Nat → Rat} {q : Rat} {top : Nat} : ∀ (s j : Nat), s ≤ j → hvQ a q top s j = 0
  | 0, _, _ => rfl
  | s + 1, j, hj => by
    show conv (hvQ a q top s) (linQ q _) j + oneQ _ j = 0
    rw [conv_beyondQ (n := s) (m := 2) (hvQ_z s) linQ_z (by omega), oneQ_z j (by omega)]; exact Rat.add_zero 0
def scQ (w : Nat → Rat) (q : Rat) : Nat → Nat → Rat
  | 0 => w
  | j + 1 => fsclQ (scQ w q j) q
theorem scQ_z {w : Nat → Rat} {q : Rat} {n : Nat} (h : ∀ i, n ≤ i → w i = 0) : ∀ j i, n ≤ i → scQ w q j i = 0
  | 0 => h
  | j + 1 => fsclQ_z (scQ_z h j)
theorem scQ_pow {w : Nat → Rat} {q : Rat} {i : Nat} : ∀ j, scQ w q j i = w i * q ^ j
  | 0 => by show w i = _; rw [Rat.pow_zero, Rat.mul_one]
  | j + 1 => by show scQ w q j i * q = _; rw [scQ_pow j, Rat.pow_succ, Rat.mul_assoc]

theorem cv_low {a b : Nat → Int} {j : Nat} (hb : ∀ i, 2 ≤ i → b i = 0) : ∀ m, m + 1 ≤ j → cv a b m j = 0 := fun m hm => conv_z fun i hi hij => by rw [hb (j - i) (by omega)]; simp
theorem cv_lowQ {a b : Nat → Rat} {j : Nat} (hb : ∀ i, 2 ≤ i → b i = 0) : ∀ m, m + 1 ≤ j → cv a b m j = 0 := fun m hm => conv_zQ fun i hi hij => by rw [hb (j - i) (by omega)]; grind
theorem conv_lin {a : Nat → Int} {x y : Int} : ∀ j, conv a (lin x y) j = a j * x + (if j = 0 then 0 else a (j - 1) * y)
  | 0 => by
    show cv a (lin x y) 0 0 + (if 0 ≤ 0 then a 0 * lin x y (0 - 0) else 0) = _
    rw [if_pos (Nat.le_refl _), if_pos rfl]
    show 0 + a 0 * x = a 0 * x + 0
    omega
  | j + 1 => by
    show (cv a (lin x y) j (j + 1) + (if j ≤ j + 1 then a j * lin x y (j + 1 - j) else 0)) + (if j + 1 ≤ j + 1 then a (j + 1) * lin x y (j + 1 - (j + 1)) else 0) = _
    rw [cv_low lin_z j (Nat.le_refl _), if_pos (by omega), if_pos (Nat.le_refl _), if_neg (by omega), Nat.sub_self, show j + 1 - j = 1 by omega, Nat.add_sub_cancel]
    show (0 + a j * y) + a (j + 1) * x = a (j + 1) * x + a j * y
    omega
theorem conv_linQ {a : Nat → Rat} {x y : Rat} : ∀ j, conv a (linQ x y) j = a j * x + (if j = 0 then 0 else a (j - 1) * y)
  | 0 => by
    show cv a (linQ x y) 0 0 + (if 0 ≤ 0 then a 0 * linQ x y (0 - 0) else 0) = _
    rw [if_pos (Nat.le_refl _), if_pos rfl]
    show 0 + a 0 * x = a 0 * x + 0
    grind
  | j + 1 => by
    show (cv a (linQ x y) j (j + 1) + (if j ≤ j + 1 then a j * linQ x y (j + 1 - j) else 0)) + (if j + 1 ≤ j + 1 then a (j + 1) * linQ x y (j + 1 - (j + 1)) else 0) = _
    rw [cv_lowQ linQ_z j (Nat.le_refl _), if_pos (by omega), if_pos (Nat.le_refl _), if_neg (by omega), Nat.sub_self, show j + 1 - j = 1 by omega, Nat.add_sub_cancel]
    show (0 + a j * y) + a (j + 1) * x = a (j + 1) * x + a j * y
    grind
theorem mkR_div {x y : Int} (hy : ¬ y = 0) : mkR x y * (y : Rat) = (x : Rat) := by
  rw [← mkR_int y, ← mkR_int x, mkR_ne hy, mkR_ne (by decide), mkR_ne (by decide), Rat.divInt_mul_divInt, Int.mul_one, Int.mul_comm x y]
  have h := Rat.divInt_mul_left (n := x) (d := 1) hy
  rwa [Int.mul_one] at h
theorem cast_pow (y : Int) : ∀ s : Nat, ((y ^ s : Int) : Rat) = (y : Rat) ^ s
  | 0 => rfl
  | s + 1 => by rw [Int.pow_succ, Rat.intCast_mul, cast_pow y s, Rat.pow_succ]
/-- Step by step: over whole numbers as over rationals, but for a power of the denominator. -/
theorem mv_hv {a : Nat → Int} {x y : Int} {top : Nat} (hy : ¬ y = 0) : ∀ s i, ((mvZ a x y top s i : Int) : Rat) * (y : Rat) = (y : Rat) ^ s * hvQ (rc a) (mkR x y) top s i
  | 0, i => by show ((0 : Int) : Rat) * _ = _ * (0 : Rat); rw [Rat.mul_zero]; exact Rat.zero_mul _
  | s + 1, i => by
    have h0 := mv_hv (a := a) (x := x) (y := y) (top := top) hy s i
    have h1 := mv_hv (a := a) (x := x) (y := y) (top := top) hy s (i - 1)
    have hq := mkR_div (x := x) hy
    show ((conv (mvZ a x y top s) (lin x y) i + onez (a (top - 1 - s) * y ^ s) i : Int) : Rat) * (y : Rat) = (y : Rat) ^ (s + 1) * (conv (hvQ (rc a) (mkR x y) top s) (linQ (mkR x y) (((1 : Int) : Int) : Rat)) i + oneQ (rc a (top - 1 - s)) i)
    rw [conv_lin, conv_linQ, Rat.intCast_add, Rat.intCast_add, Rat.intCast_mul, Rat.pow_succ]
    have h1c : (((1 : Int) : Int) : Rat) = 1 := rfl
    rw [h1c]
    have hrc : rc a (top - 1 - s) = ((a (top - 1 - s) : Int) : Rat) := rfl
    rw [hrc]
    unfold onez oneQ
    by_cases hi : i = 0
    · subst hi
      rw [if_pos rfl, if_pos rfl, if_pos rfl, if_pos rfl, Rat.intCast_mul, cast_pow]
      have h00 : ((0 : Int) : Rat) = 0 := rfl
      rw [h00]
      grind
    · rw [if_neg hi, if_neg hi, if_neg hi, if_neg hi, Rat.intCast_mul]
      have h00 : ((0 : Int) : Rat) = 0 := rfl
      rw [h00]
      grind
theorem pow_ne {q : Rat} (h : q ≠ 0) : ∀ s : Nat, q ^ s ≠ 0
  | 0 => by rw [Rat.pow_zero]; decide
  | s + 1 => by rw [Rat.pow_succ]; intro e; rcases Rat.mul_eq_zero.1 e with e | e; exact pow_ne h s e; exact h e
theorem mv_end {a : Nat → Int} {x y : Int} {n : Nat} (hy : ¬ y = 0) (i : Nat) : scQ (hvQ (rc a) (mkR x y) n n) (mkR y 1) (n - 1) i = rc (mvZ a x y n n) i := by
  rw [scQ_pow, mkR_int]
  show _ = ((mvZ a x y n n i : Int) : Rat)
  have h := mv_hv (a := a) (x := x) (y := y) (top := n) hy n i
  have hy' : (y : Rat) ≠ 0 := fun e => hy (Rat.intCast_eq_zero_iff.1 e)
  cases n with
  | zero => show (0 : Rat) * _ = ((0 : Int) : Rat); exact Rat.zero_mul _
  | succ s =>
    rw [Nat.add_sub_cancel]
    rw [Rat.pow_succ] at h
    grind
theorem dg_fun {α : Type} [DecidableEq α] [OfNat α 0] {c d : Nat → α} (h : ∀ i, c i = d i) (n : Nat) : dg c n = dg d n := by rw [funext h]
/-- The bounds in PolyMoves. -/
def KW : Nat → Nat
  | 0 => 64
  | s + 1 => (s + 2) * (KW s + 64 + 66) + 70
theorem KW_le : ∀ s, s ≤ 6 → KW s ≤ 5000000 := by decide
end Go.Proofs.Ytnnpjkalkfoolaa
