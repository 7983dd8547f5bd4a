/-
  PLAIN LAW of chapter 5: the product of polynomials asks for no order, and goes over sums; its leading coefficient. No condition; nothing of the program.
-/
import Derived.Test.YtnnpjkalkfoolaaPe
set_option linter.unusedVariables false
set_option linter.unusedSimpArgs false
namespace Go.Proofs.Ytnnpjkalkfoolaa
open Go.RowKit

def sm (f : Nat → Int) : Nat → Int
  | 0 => 0
  | m + 1 => sm f m + f m
theorem sm_congr {f g : Nat → Int} : ∀ {m : Nat}, (∀ i, i < m → f i = g i) → sm f m = sm g m
  | 0, _ => rfl
  | m + 1, h => by show sm f m + f m = sm g m + g m; rw [sm_congr (fun i hi => h i (by omega)), h m (by omega)]
theorem sm_add {f g : Nat → Int} : ∀ m, sm (fun i => f i + g i) m = sm f m + sm g m
  | 0 => rfl
  | m + 1 => by show sm _ m + (f m + g m) = (sm f m + f m) + (sm g m + g m); rw [sm_add m]; omega
theorem sm_mul {f : Nat → Int} {q : Int} : ∀ m, sm (fun i => q * f i) m = q * sm f m
  | 0 => (Int.mul_zero q).symm
  | m + 1 => by show sm _ m + q * f m = q * (sm f m + f m); rw [sm_mul m, Int.mul_add]
theorem sm_mul_r {f : Nat → Int} {q : Int} : ∀ m, sm (fun i => f i * q) m = sm f m * q
  | 0 => (Int.zero_mul q).symm
  | m + 1 => by show sm _ m + f m * q = (sm f m + f m) * q; rw [sm_mul_r m, Int.add_mul]
theorem sm_first {f : Nat → Int} : ∀ m, sm f (m + 1) = f 0 + sm (fun i => f (i + 1)) m
  | 0 => by show (0 : Int) + f 0 = f 0 + 0; omega
  | m + 1 => by
    have h := sm_first (f := f) m
    show sm f (m + 1) + f (m + 1) = f 0 + (sm (fun i => f (i + 1)) m + f (m + 1))
    omega
theorem sm_rev {f : Nat → Int} : ∀ n, sm f (n + 1) = sm (fun i => f (n - i)) (n + 1)
  | 0 => rfl
  | n + 1 => by
    rw [sm_first (f := fun i => f (n + 1 - i)) (n + 1)]
    show sm f (n + 1) + f (n + 1) = f (n + 1) + sm (fun i => f (n + 1 - (i + 1))) (n + 1)
    rw [sm_rev n, Int.add_comm]
    congr 1
    exact sm_congr fun i _ => by congr 1; omega
theorem cv_sm {a b : Nat → Int} {j : Nat} : ∀ {m : Nat}, m ≤ j + 1 → cv a b m j = sm (fun i => a i * b (j - i)) m
  | 0, _ => rfl
  | m + 1, h => by
    show cv a b m j + (if m ≤ j then a m * b (j - m) else 0) = _
    rw [cv_sm (by omega), if_pos (by omega)]; rfl
theorem conv_sm (a b : Nat → Int) (j : Nat) : conv a b j = sm (fun i => a i * b (j - i)) (j + 1) := cv_sm (Nat.le_refl _)
theorem conv_comm (a b : Nat → Int) (j : Nat) : conv a b j = conv b a j := by
  rw [conv_sm, conv_sm, sm_rev]
  exact sm_congr fun i hi => by rw [show j - (j - i) = i by omega, Int.mul_comm]
theorem sm_tri {G : Nat → Nat → Int} : ∀ n, sm (fun i => sm (fun k => G k (i - k)) (i + 1)) (n + 1) = sm (fun k => sm (fun l => G k l) (n - k + 1)) (n + 1)
  | 0 => rfl
  | n + 1 => by
    have e : sm (fun k => sm (fun l => G k l) (n + 1 - k + 1)) (n + 1) = sm (fun k => sm (fun l => G k l) (n - k + 1)) (n + 1) + sm (fun k => G k (n + 1 - k)) (n + 1) := by
      rw [← sm_add]
      refine sm_congr fun k hk => ?_
      rw [show n + 1 - k + 1 = (n - k + 1) + 1 by omega]
      show sm (fun l => G k l) (n - k + 1) + G k (n - k + 1) = _
      rw [show n - k + 1 = n + 1 - k by omega]
    show sm (fun i => sm (fun k => G k (i - k)) (i + 1)) (n + 1) + (sm (fun k => G k (n + 1 - k)) (n + 1) + G (n + 1) (n + 1 - (n + 1))) = sm (fun k => sm (fun l => G k l) (n + 1 - k + 1)) (n + 1) + sm (fun l => G (n + 1) l) (n + 1 - (n + 1) + 1)
    rw [e, sm_tri n, Nat.sub_self]
    show _ = _ + (0 + G (n + 1) 0)
    omega
theorem conv_assoc (a b c : Nat → Int) (j : Nat) : conv (conv a b) c j = conv a (conv b c) j := by
  rw [conv_sm, conv_sm]
  have h1 : sm (fun i => conv a b i * c (j - i)) (j + 1) = sm (fun i => sm (fun k => (fun k l => a k * b l * c (j - (k + l))) k (i - k)) (i + 1)) (j + 1) := by
    refine sm_congr fun i hi => ?_
    rw [conv_sm, ← sm_mul_r]
    exact sm_congr fun k hk => by show _ = a k * b (i - k) * c (j - (k + (i - k))); rw [show k + (i - k) = i by omega]
  have h2 : sm (fun i => a i * conv b c (j - i)) (j + 1) = sm (fun k => sm (fun l => (fun k l => a k * b l * c (j - (k + l))) k l) (j - k + 1)) (j + 1) := by
    refine sm_congr fun k hk => ?_
    rw [conv_sm, ← sm_mul]
    exact sm_congr fun l hl => by show _ = a k * b l * c (j - (k + l)); rw [show j - k - l = j - (k + l) by omega, Int.mul_assoc]
  rw [h1, h2]
  exact sm_tri (G := fun k l => a k * b l * c (j - (k + l))) j
theorem conv_add (a b c : Nat → Int) (j : Nat) : conv a (fadd b c) j = fadd (conv a b) (conv a c) j := by
  show _ = conv a b j + conv a c j
  rw [conv_sm, conv_sm, conv_sm, ← sm_add]
  exact sm_congr fun i _ => by show a i * (b (j - i) + c (j - i)) = _; rw [Int.mul_add]
theorem conv_fun {a b a' b' : Nat → Int} (h : ∀ i, a i = a' i) (k : ∀ i, b i = b' i) (j : Nat) : conv a b j = conv a' b' j := by rw [funext h, funext k]
theorem fadd_fun {a b a' b' : Nat → Int} (h : ∀ i, a i = a' i) (k : ∀ i, b i = b' i) (j : Nat) : fadd a b j = fadd a' b' j := by rw [funext h, funext k]
theorem conv_one (a : Nat → Int) (j : Nat) : conv (lst [1]) a j = a j := by
  rw [conv_sm, sm_first]
  show 1 * a (j - 0) + sm (fun i => lst [1] (i + 1) * a (j - (i + 1))) j = a j
  have : sm (fun i => lst [1] (i + 1) * a (j - (i + 1))) j = sm (fun i => 0 * a (j - (i + 1))) j := sm_congr fun i _ => by rw [lst_z (l := [1]) (i + 1) (by simp)]
  rw [this, sm_mul (q := 0) (f := fun i => a (j - (i + 1)))]; simp
/-- The leading coefficient of a product. -/
theorem conv_top {a b : Nat → Int} {n m : Nat} (ha : ∀ i, n ≤ i → a i = 0) (hb : ∀ i, m ≤ i → b i = 0) (hn : n ≠ 0) (hm : m ≠ 0) : conv a b (n + m - 2) = a (n - 1) * b (m - 1) := by
  obtain ⟨n, rfl⟩ := Nat.exists_eq_succ_of_ne_zero hn
  obtain ⟨m, rfl⟩ := Nat.exists_eq_succ_of_ne_zero hm
  rw [← cv_conv (n := n + 1) ha]
  show cv a b n (n.succ + m.succ - 2) + (if n ≤ n.succ + m.succ - 2 then a n * b (n.succ + m.succ - 2 - n) else 0) = a n * b m
  rw [conv_z (fun i hi _ => by rw [hb (n.succ + m.succ - 2 - i) (by omega), Int.mul_zero]), if_pos (by omega), show n.succ + m.succ - 2 - n = m by omega, Int.zero_add]
theorem dg_conv {a b : Nat → Int} {n m : Nat} (hn : n ≠ 0) (hm : m ≠ 0) (ha : ∀ i, n ≤ i → a i = 0) (hb : ∀ i, m ≤ i → b i = 0) (ha0 : a (n - 1) ≠ 0) (hb0 : b (m - 1) ≠ 0) {p : Nat} (hp : ∀ i, p ≤ i → conv a b i = 0) : dg (conv a b) p = n + m - 1 :=
  dg_uniq dg_or (dg_z hp) (Or.inr (by rw [show n + m - 1 - 1 = n + m - 2 by omega, conv_top ha hb hn hm]; exact Int.mul_ne_zero ha0 hb0)) (fun i hi => conv_beyond ha hb (by omega))
def f3 {α : Type} (x y z : α) : Nat → α := fun p => if p = 0 then x else if p = 1 then y else z
theorem isps3 {K n0 n1 n2 : Nat} {g0 g1 g2 : Nat → Bool × List Nat} {el : Nat → Nat → Lf} (h0 : el 0 0 = arow K n0 g0 := by rfl) (h1 : el 1 0 = arow K n1 g1 := by rfl) (h2 : el 2 0 = arow K n2 g2 := by rfl) : ∀ B w v, LfR B w (.row 1 3 el) v → LfR B w (prows K 3 (f3 n0 n1 n2) (f3 g0 g1 g2)) v := by
  refine row_le fun i hi j hj B w v hv => ?_
  obtain rfl : j = 0 := by omega
  match i, hi with
  | 0, _ => rw [h0] at hv; exact hv
  | 1, _ => rw [h1] at hv; exact hv
  | 2, _ => rw [h2] at hv; exact hv
theorem nil_zn {K : Nat} {z : Int} (h : z = 0) : AV.le (.d (.agg [.v (.bool false), .v (.slice none 0 0)])) (.d (.agg (zn K z))) := by subst h; exact le_agg fun B w cs h => zn_mono (Nat.zero_le _) _ _ _ (nil_ls h)
end Go.Proofs.Ytnnpjkalkfoolaa
