/-
  ROWS with a bound on their length: 'La' (limbs, any form), 'Ln' (limbs, normal), 'Dg' (digits of four decimals), and the contracts of limb and of the plain reckoning's rows in these words.
-/
import Derived.Test.YtkcagkcphobmfaaZb
set_option linter.unusedVariables false
set_option linter.unusedSimpArgs false
namespace Go.Proofs.Ytkcagkcphobmfaa
open Go.RowKit

def La (K : Nat) (w : World) (ao : Option Addr) (n c M : Nat) : Prop := n ≤ K ∧ ∃ xs, Rw .u32 B32 w ao n c xs ∧ val xs = M
def Ln (K : Nat) (w : World) (ao : Option Addr) (n c M : Nat) : Prop := n ≤ K ∧ Rw .u32 B32 w ao n c (limbs M)
def Dg (K : Nat) (w : World) (ao : Option Addr) (n c M : Nat) : Prop := n ≤ K ∧ Rw .i64 B4 w ao n c (digs4 M)

section
variable {K L : Nat} {w w' : World} {s : Bool} {ao : Option Addr} {n c M g : Nat} {z : Int} {t : TypeId} {vs : List Value}
theorem La.ext (h : La K w ao n c M) (he : Below w.heap.size w w') : La K w' ao n c M := ⟨h.1, let ⟨xs, h2, h3⟩ := h.2; ⟨xs, h2.ext he, h3⟩⟩
theorem Ln.ext (h : Ln K w ao n c M) (he : Below w.heap.size w w') : Ln K w' ao n c M := ⟨h.1, h.2.ext he⟩
theorem Dg.ext (h : Dg K w ao n c M) (he : Below w.heap.size w w') : Dg K w' ao n c M := ⟨h.1, h.2.ext he⟩
theorem La.drew (h : La K w ao n c M) : La K w.drew ao n c M := h
theorem Ln.drew (h : Ln K w ao n c M) : Ln K w.drew ao n c M := h
theorem Dg.drew (h : Dg K w ao n c M) : Dg K w.drew ao n c M := h
theorem La.upd (h : La K w ao n c M) (hb : Blk w g t vs) (hx : ∀ k, NoInt k vs) (hu : Upd g w w') : La K w' ao n c M := ⟨h.1, let ⟨xs, h2, h3⟩ := h.2; ⟨xs, h2.upd hb (hx _) hu, h3⟩⟩
theorem Ln.upd (h : Ln K w ao n c M) (hb : Blk w g t vs) (hx : ∀ k, NoInt k vs) (hu : Upd g w w') : Ln K w' ao n c M := ⟨h.1, h.2.upd hb (hx _) hu⟩
theorem Dg.upd (h : Dg K w ao n c M) (hb : Blk w g t vs) (hx : ∀ k, NoInt k vs) (hu : Upd g w w') : Dg K w' ao n c M := ⟨h.1, h.2.upd hb (hx _) hu⟩
theorem La.le (h : La K w ao n c M) : n ≤ K := h.1
theorem Ln.le (h : Ln K w ao n c M) : n ≤ K := h.1
theorem Dg.le (h : Dg K w ao n c M) : n ≤ K := h.1
theorem La.mono (h : La K w ao n c M) (hk : K ≤ L) : La L w ao n c M := ⟨Nat.le_trans h.1 hk, h.2⟩
theorem Ln.mono (h : Ln K w ao n c M) (hk : K ≤ L) : Ln L w ao n c M := ⟨Nat.le_trans h.1 hk, h.2⟩
theorem Dg.mono (h : Dg K w ao n c M) (hk : K ≤ L) : Dg L w ao n c M := ⟨Nat.le_trans h.1 hk, h.2⟩
theorem Ln.la (h : Ln K w ao n c M) : La K w ao n c M := ⟨h.1, _, h.2, val_limbs M⟩
theorem Ln.any (h : Ln K w ao n c M) : La K w ao n c M := h.la
theorem Za.la (h : Za K w s ao n c z) : La K w ao n c z.natAbs := by
  obtain ⟨h1, xs, h2, rfl⟩ := h
  exact ⟨h1, xs, h2, (zv_abs s _).symm⟩
theorem Zn.la (h : Zn K w s ao n c z) : La K w ao n c z.natAbs := h.any.la
theorem Zn.ln (h : Zn K w s ao n c z) : Ln K w ao n c z.natAbs := ⟨h.1, h.2.1⟩
theorem Rn.dg (h : Rn K w ao n c s z) : Dg K w ao n c z.natAbs := ⟨h.1, h.2.1⟩
theorem La.lt (h : La K w ao n c M) : M < B32 ^ K := by
  obtain ⟨h1, xs, h2, rfl⟩ := h
  exact row_lt h2 h1
theorem Ln.lt (h : Ln K w ao n c M) : M < B32 ^ K := h.la.lt
theorem Dg.lt (h : Dg K w ao n c M) : M < B4 ^ K := by
  obtain ⟨h1, h2⟩ := h
  have h3 := val4_lt (digs4_lt M)
  rw [val4_digs4, h2.len] at h3
  exact Nat.lt_of_lt_of_le h3 (Nat.pow_le_pow_right (by decide) h1)
theorem Zn.sgn (h : Zn K w s ao n c z) : s = decide (z < 0) := h.2.2
theorem Rn.sgn (h : Rn K w ao n c s z) : s = decide (z < 0) := h.2.2
/-- How long a normal row is says whether it is nought. -/
theorem Ln.zero (h : Ln K w ao n c M) : n = 0 ↔ M = 0 := limbs_len_zero h.2
theorem Dg.zero (h : Dg K w ao n c M) : n = 0 ↔ M = 0 := digs4_len_zero h.2
theorem Ln.of (h : Rw .u32 B32 w ao n c (limbs M)) (hM : M < B32 ^ K) : Ln K w ao n c M := ⟨len_le_pow h hM, h⟩
theorem Dg.of (h : Rw .i64 B4 w ao n c (digs4 M)) (hM : M < B4 ^ K) : Dg K w ao n c M := ⟨digs_len_pow h hM, h⟩
end

/-- The post: a row of digits. -/
def RetD (K : Nat) (w : World) (M : Nat) (e : Ending) (w' : World) : Prop := ∃ ro k c, e = .returned (.slice ro k c) ∧ Dg K w' ro k c M ∧ Below w.heap.size w w'
/-- The post: a row of limbs. -/
def RetL (K : Nat) (w : World) (M : Nat) (e : Ending) (w' : World) : Prop := ∃ ro k c, e = .returned (.slice ro k c) ∧ Ln K w' ro k c M ∧ Own w.heap.size w' ro c ∧ Below w.heap.size w w'

section
variable {K L : Nat} {w : World} {ao bo : Option Addr} {n c m d M N : Nat}
theorem nAdd (h : Dg K w ao n c M) (k : Dg L w bo m d N) (hK : K ≤ 1073741824 := by omega) (hL : L ≤ 1073741824 := by omega) : Calls Try.prog 69 #[.slice ao n c, .slice bo m d] w (RetD (max K L + 1) w (M + N)) :=
  (addN_any ao bo n c m d M N w (Nat.le_trans h.1 hK) (Nat.le_trans k.1 hL) h.2 k.2).mono fun e w' ⟨ro, rk, rc, he, h1, _, hb⟩ => ⟨ro, rk, rc, he, Dg.of h1 (max_add_lt (by decide) h.lt k.lt), hb⟩
theorem nSub (h : Dg K w ao n c M) (k : Dg L w bo m d N) (hle : N ≤ M) (hK : K ≤ 1073741824 := by omega) (hL : L ≤ 1073741824 := by omega) : Calls Try.prog 70 #[.slice ao n c, .slice bo m d] w (RetD K w (M - N)) :=
  (subN_any ao bo n c m d M N w (Nat.le_trans h.1 hK) (Nat.le_trans k.1 hL) hle h.2 k.2).mono fun e w' ⟨ro, rk, rc, he, h1, h2, hb⟩ => ⟨ro, rk, rc, he, ⟨Nat.le_trans h2 h.1, h1⟩, hb⟩
theorem nMul (h : Dg K w ao n c M) (k : Dg L w bo m d N) (hK : K ≤ 1073741824 := by omega) (hL : L ≤ 1073741824 := by omega) : Calls Try.prog 61 #[.slice ao n c, .slice bo m d] w (RetD (K + L) w (M * N)) :=
  (mulN_any ao bo n c m d M N w (Nat.le_trans h.1 hK) (Nat.le_trans k.1 hL) h.2 k.2).mono fun e w' ⟨ro, rk, rc, he, h1, h2, hb⟩ => ⟨ro, rk, rc, he, ⟨Nat.le_trans h2 (Nat.add_le_add h.1 k.1), h1⟩, hb⟩
theorem nCmp (h : Dg K w ao n c M) (k : Dg L w bo m d N) {v : Int} (hv : cmpZ M N = v) (hK : K ≤ 1073741824 := by omega) (hL : L ≤ 1073741824 := by omega) : Calls Try.prog 28 #[.slice ao n c, .slice bo m d] w fun e w' => e = .returned (.int .i64 v) ∧ Below w.heap.size w w' :=
  (cmpN_any ao bo n c m d M N w (Nat.le_trans h.1 hK) (Nat.le_trans k.1 hL) h.2 k.2).mono fun e w' ⟨he, hb⟩ => ⟨hv ▸ he, hb⟩
/-- The post: quotient and remainder. -/
def RetDD (K L : Nat) (w : World) (M N : Nat) (e : Ending) (w' : World) : Prop := ∃ qo qn qc ro rn rc, e = .returned (.tuple #[.slice qo qn qc, .slice ro rn rc]) ∧ Dg K w' qo qn qc M ∧ Dg L w' ro rn rc N ∧ Below w.heap.size w w'
theorem nDiv (h : Dg K w ao n c M) (k : Dg L w bo m d N) (hN : 0 < N) (hK : K ≤ 100000000 := by omega) (hL : L ≤ 100000000 := by omega) : Calls Try.prog 58 #[.slice ao n c, .slice bo m d] w (RetDD K L w (M / N) (M % N)) :=
  (divN_any ao bo n c m d M N w (Nat.le_trans h.1 hK) (Nat.le_trans k.1 hL) hN h.2 k.2).mono fun e w' ⟨qo, qn, qc, ro, rn, rc, he, h1, h2, h3, h4, hb⟩ => ⟨qo, qn, qc, ro, rn, rc, he, ⟨Nat.le_trans h2 h.1, h1⟩, ⟨Nat.le_trans h4 k.1, h3⟩, hb⟩
theorem nTo (h : Dg K w ao n c M) (hK : K ≤ 1000000000 := by omega) : Calls Try.prog 62 #[.slice ao n c] w fun e w' => ∃ ro k c', e = .returned (.slice ro k c') ∧ Ln K w' ro k c' M ∧ Below w.heap.size w w' :=
  (toN_any ao n c M w (Nat.le_trans h.1 hK) h.2).mono fun e w' ⟨ro, k, c', he, h1, h2, hb⟩ => ⟨ro, k, c', he, ⟨Nat.le_trans h2 h.1, h1⟩, hb⟩
theorem nPow (n : Nat) (w : World) (hn : n ≤ 1000000 := by omega) : Calls Try.prog 29 #[.int .i64 (n : Int)] w (RetD (n + 1) w (2 ^ n)) :=
  (powN_any n w hn).mono fun e w' ⟨ro, k, c', he, h1, h2, hb⟩ => ⟨ro, k, c', he, ⟨h2, h1⟩, hb⟩

theorem lNorm (h : La K w ao n c M) (hK : K ≤ 1073741824 := by omega) : Calls Try.prog 63 #[.slice ao n c] w (RetL K w M) := by
  obtain ⟨h1, xs, h2, rfl⟩ := h
  exact (norm_any ao n c xs w (by omega) h2).mono fun e w' ⟨ro, k, c', he, hk, h3, ho, hb⟩ => ⟨ro, k, c', he, ⟨by omega, h3⟩, ho, hb⟩
theorem lAdd (h : La K w ao n c M) (k : La L w bo m d N) (hK : K ≤ 1073741824 := by omega) (hL : L ≤ 1073741824 := by omega) : Calls Try.prog 56 #[.slice ao n c, .slice bo m d] w (RetL (max K L + 1) w (M + N)) := by
  have ha := h.lt
  have hb := k.lt
  obtain ⟨h1, xs, h2, rfl⟩ := h
  obtain ⟨k1, ys, k2, rfl⟩ := k
  exact (add_any ao bo n c m d xs ys w (by omega) (by omega) h2 k2).mono fun e w' ⟨ro, k, c', he, h3, ho, hbb⟩ => ⟨ro, k, c', he, Ln.of h3 (max_add_lt (by decide) ha hb), ho, hbb⟩
theorem lCmp (h : La K w ao n c M) (k : La L w bo m d N) {v : Int} (hv : cmpZ M N = v) (hK : K ≤ 1073741824 := by omega) (hL : L ≤ 1073741824 := by omega) : Calls Try.prog 72 #[.slice ao n c, .slice bo m d] w fun e w' => e = .returned (.int .i64 v) ∧ Below w.heap.size w w' := by
  obtain ⟨h1, xs, h2, rfl⟩ := h
  obtain ⟨k1, ys, k2, rfl⟩ := k
  exact (cmp_any ao bo n c m d xs ys w (by omega) (by omega) h2 k2).mono fun e w' ⟨he, hb⟩ => ⟨hv ▸ he, hb⟩
theorem lBits (h : La K w ao n c M) {v : Int} (hv : ((nbits M : Nat) : Int) = v) (hK : K ≤ 1073741824 := by omega) : Calls Try.prog 64 #[.slice ao n c] w fun e w' => e = .returned (.int .i64 v) ∧ w = w' := by
  obtain ⟨h1, xs, h2, rfl⟩ := h
  exact (bits_any ao n c xs w (by omega) h2).mono fun e w' ⟨he, hb⟩ => ⟨hv ▸ he, hb⟩
theorem lSub (h : La K w ao n c M) (k : La L w bo m d N) {b : Bool} (hv : decide (N ≤ M) = b) (hK : K ≤ 1073741824 := by omega) (hL : L ≤ 1073741824 := by omega) : Calls Try.prog 57 #[.slice ao n c, .slice bo m d] w fun e w' => ∃ ro k c', e = .returned (.tuple #[.slice ro k c', .bool b]) ∧ Ln K w' ro k c' (M - N) ∧ Own w.heap.size w' ro c' ∧ Below w.heap.size w w' := by
  have ha := h.lt
  obtain ⟨h1, xs, h2, rfl⟩ := h
  obtain ⟨k1, ys, k2, rfl⟩ := k
  exact (sub_any ao bo n c m d xs ys w (by omega) (by omega) h2 k2).mono fun e w' ⟨ro, k, c', he, h3, ho, hbb⟩ => ⟨ro, k, c', hv ▸ he, Ln.of h3 (by omega), ho, hbb⟩
theorem lMade (h : Ln K w ao n c M) {sg : Bool} {z : Int} (hz : zv sg M = z) : Calls Try.prog 55 #[.slice ao n c, .bool sg] w (RetN K w z) :=
  (made_any ao n c M sg w h.2).mono fun e w' ⟨he, hb⟩ => ⟨_, ao, n, c, he, Zn.mk (h.2.ext hb) hz h.lt, hb⟩
end

end Go.Proofs.Ytkcagkcphobmfaa
