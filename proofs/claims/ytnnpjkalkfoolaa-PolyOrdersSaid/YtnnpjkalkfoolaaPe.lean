/-
  PLAIN LAW of chapter 5: sums, products, multiples over rationals and over whole numbers. No condition; nothing of the program.
-/
import Derived.Test.YtnnpjkalkfoolaaPb
set_option linter.unusedVariables false
set_option linter.unusedSimpArgs false
namespace Go.Proofs.Ytnnpjkalkfoolaa
open Go.RowKit

theorem rc_add (a b : Nat → Int) (j : Nat) : faddQ (rc a) (rc b) j = rc (fadd a b) j := (Rat.intCast_add _ _).symm
theorem rc_conv (a b : Nat → Int) (j : Nat) : conv (rc a) (rc b) j = rc (conv a b) j := cv_cast _
theorem rc_scl (a : Nat → Int) (y : Int) (j : Nat) : fsclQ (rc a) (mkR y 1) j = rc (fscl a y) j := by
  rw [mkR_int]; exact (Rat.intCast_mul _ _).symm
theorem len_add {a b : Nat → Int} {p q : Nat} (h1 : ∀ j, p ≤ j → fadd a b j = 0) (h2 : ∀ j, q ≤ j → fadd a b j = 0) : dg (faddQ (rc a) (rc b)) p = dg (fadd a b) q := (dg_fun (rc_add a b) p).trans ((dg_cast p).trans (dg_eq h1 h2))
theorem len_conv {a b : Nat → Int} {p q : Nat} (h1 : ∀ j, p ≤ j → conv a b j = 0) (h2 : ∀ j, q ≤ j → conv a b j = 0) : dg (conv (rc a) (rc b)) p = dg (conv a b) q := (dg_fun (rc_conv a b) p).trans ((dg_cast p).trans (dg_eq h1 h2))
theorem len_scl {a : Nat → Int} {y : Int} {p : Nat} : dg (fsclQ (rc a) (mkR y 1)) p = dg (fscl a y) p := (dg_fun (rc_scl a y) p).trans (dg_cast p)
/-- The bounds in PolyAlls. -/
def KP : Nat → Nat
  | 0 => 64
  | i + 1 => (i * 5 + 1 + 1) * (KP i + 64 + 66) + 70
theorem KP_le : ∀ i, i ≤ 4 → KP i ≤ 5000000 := by decide
theorem app_r {e : TypeId} {K n m : Nat} {ns : Nat → Nat} {fs : Nat → Nat → Bool × List Nat} {el2 : Nat → Nat → Lf} (hm : m = n + 1) (h0 : el2 0 0 = arow K (ns n) (fs n) := by rfl) : AO.le (.row e 1 (n + 1) (appEl n (fun p _ => arow K (ns p) (fs p)) el2)) (.row e 1 m (fun p _ => arow K (ns p) (fs p))) := by
  refine app_el hm (fun i hi j hj B w v hv => hv) fun j hj B w v hv => ?_
  obtain rfl : j = 0 := by omega
  rw [h0] at hv; exact hv
theorem isi_cut {n : Nat} {c : Nat → Int} : IsI (irow n c) n (fun i => if i < n then c i else 0) := by
  refine ⟨row_le fun i hi j hj B w v hv => ?_, fun i hi => if_neg (by omega)⟩
  show LfR B w (.v (.int .i64 (if i < n then c i else 0))) v
  rw [if_pos hi]; exact hv
end Go.Proofs.Ytnnpjkalkfoolaa
