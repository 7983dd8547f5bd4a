/-
  CONTRACTS of whole numbers in the words Za, Zn, Rn.
-/
import Derived.Test.YtkcagkcphobmfaaZa
set_option linter.unusedVariables false
set_option linter.unusedSimpArgs false
namespace Go.Proofs.Ytkcagkcphobmfaa
open Go.RowKit

theorem zv_natAbs' (s : Bool) (m : Nat) : (zv s m).natAbs = m := zv_abs s m

theorem Za.lt {K : Nat} {w : World} {s : Bool} {ao : Option Addr} {n c : Nat} {z : Int} (h : Za K w s ao n c z) : z.natAbs < B32 ^ K := by
  obtain ⟨h1, xs, h2, rfl⟩ := h
  rw [zv_abs]
  exact row_lt h2 h1

theorem Rn.lt {K : Nat} {w : World} {s : Bool} {ao : Option Addr} {n c : Nat} {z : Int} (h : Rn K w ao n c s z) : z.natAbs < B4 ^ K := by
  obtain ⟨h1, h2, _⟩ := h
  have h3 := val4_lt (digs4_lt z.natAbs)
  rw [val4_digs4, h2.len] at h3
  exact Nat.lt_of_lt_of_le h3 (Nat.pow_le_pow_right (by decide) h1)

theorem Zn.mk {K : Nat} {w : World} {sg : Bool} {ro : Option Addr} {k c' M : Nat} {z : Int} (hr : Rw .u32 B32 w ro k c' (limbs M)) (hz : zv sg M = z) (hM : M < B32 ^ K) : Zn K w (sg && decide (0 < M)) ro k c' z := by
  subst hz
  refine ⟨len_le_pow hr hM, by rw [zv_abs]; exact hr, (zv_neg sg M).symm⟩

theorem digs_len_pow {w : World} {k c N K : Nat} {ro : Option Addr} (h : Rw .i64 B4 w ro k c (digs4 N)) (hN : N < B4 ^ K) : k ≤ K := by
  have := digs4_le hN
  rwa [h.len] at this

theorem Rn.mk {K : Nat} {w : World} {sg : Bool} {ro : Option Addr} {k c' M : Nat} {z : Int} (hr : Rw .i64 B4 w ro k c' (digs4 M)) (hz : zv sg M = z) (hM : M < B4 ^ K) : Rn K w ro k c' (sg && decide (0 < M)) z := by
  subst hz
  refine ⟨digs_len_pow hr hM, by rw [zv_abs]; exact hr, (zv_neg sg M).symm⟩

theorem max_add_lt {B a b K L : Nat} (hB : 2 ≤ B) (ha : a < B ^ K) (hb : b < B ^ L) : a + b < B ^ (max K L + 1) := by
  have h1 : B ^ K ≤ B ^ (max K L) := Nat.pow_le_pow_right (by omega) (by omega)
  have h2 : B ^ L ≤ B ^ (max K L) := Nat.pow_le_pow_right (by omega) (by omega)
  have h3 : B ^ (max K L + 1) = B ^ (max K L) * B := Nat.pow_succ _ _
  have h4 : B ^ (max K L) * 2 ≤ B ^ (max K L) * B := Nat.mul_le_mul_left _ hB
  omega

theorem mul_lt_pow {B a b K L : Nat} (ha : a < B ^ K) (hb : b < B ^ L) : a * b < B ^ (K + L) := by
  rw [Nat.pow_add]
  have : a * b ≤ a * B ^ L := Nat.mul_le_mul_left _ (Nat.le_of_lt hb)
  have h0 : 0 < B ^ L := by omega
  exact Nat.lt_of_le_of_lt this (Nat.mul_lt_mul_of_pos_right ha h0)

theorem zv_mul (s t : Bool) (a b : Nat) : zv (s != t) (a * b) = zv s a * zv t b := by
  cases s <;> cases t <;> simp [zv, Int.neg_mul, Int.mul_neg]

theorem zv_not (s : Bool) (a : Nat) : zv (!s) a = - zv s a := by cases s <;> simp [zv]

section
variable {K L : Nat} {w : World} {s t : Bool} {ao bo : Option Addr} {n c m d : Nat} {x y : Int}

/-- The post of a function whose answer is the number z, normal, in memory of its own. -/
def RetZ (K : Nat) (w : World) (z : Int) (e : Ending) (w' : World) : Prop := ∃ r ro k c', e = .returned (.agg #[.bool r, .slice ro k c']) ∧ Zn K w' r ro k c' z ∧ Own w.heap.size w' ro c' ∧ Below w.heap.size w w'

theorem wNorm (h : Za K w s ao n c x) (hK : K ≤ 1073741824 := by omega) : Calls Try.prog 43 #[.agg #[.bool s, .slice ao n c]] w (RetZ K w x) := by
  have hlt := h.lt
  obtain ⟨h1, xs, h2, rfl⟩ := h
  rw [zv_abs] at hlt
  refine (whole_Norm_any ao n c s xs w (by omega) h2).mono ?_
  rintro e w' ⟨ro, k, c', he, hr, ho, hb⟩
  exact ⟨_, ro, k, c', he, Zn.mk hr rfl hlt, ho, hb⟩

theorem wNeg (h : Za K w s ao n c x) (hK : K ≤ 1073741824 := by omega) : Calls Try.prog 34 #[.agg #[.bool s, .slice ao n c]] w (RetZ K w (-x)) := by
  have hlt := h.lt
  obtain ⟨h1, xs, h2, rfl⟩ := h
  rw [zv_abs] at hlt
  refine (whole_Neg_any ao n c s xs w (by omega) h2).mono ?_
  rintro e w' ⟨ro, k, c', he, hr, ho, hb⟩
  exact ⟨_, ro, k, c', he, Zn.mk hr (zv_not s _) hlt, ho, hb⟩

theorem wAbs (h : Za K w s ao n c x) (hK : K ≤ 1073741824 := by omega) : Calls Try.prog 35 #[.agg #[.bool s, .slice ao n c]] w (RetZ K w (x.natAbs : Int)) := by
  have hlt := h.lt
  obtain ⟨h1, xs, h2, rfl⟩ := h
  rw [zv_abs] at hlt ⊢
  refine (whole_Abs_any ao n c s xs w (by omega) h2).mono ?_
  rintro e w' ⟨ro, k, c', he, hr, ho, hb⟩
  exact ⟨_, ro, k, c', he, Zn.mk (sg := false) hr (by simp [zv]) hlt, ho, hb⟩

theorem wMul (h : Za K w s ao n c x) (k : Za L w t bo m d y) (hK : K ≤ 1073741824 := by omega) (hL : L ≤ 1073741824 := by omega) :
    Calls Try.prog 36 #[.agg #[.bool s, .slice ao n c], .agg #[.bool t, .slice bo m d]] w (RetZ (K + L) w (x * y)) := by
  have hlt := h.lt
  have hlt2 := k.lt
  obtain ⟨h1, xs, h2, rfl⟩ := h
  obtain ⟨k1, ys, k2, rfl⟩ := k
  rw [zv_abs] at hlt hlt2
  refine (whole_Mul_any ao bo n c m d s t xs ys w (by omega) (by omega) h2 k2).mono ?_
  rintro e w' ⟨ro, k, c', he, hr, ho, hb⟩
  exact ⟨_, ro, k, c', he, Zn.mk hr (zv_mul s t _ _) (mul_lt_pow hlt hlt2), ho, hb⟩

theorem wAdd (h : Za K w s ao n c x) (k : Za L w t bo m d y) (hK : K ≤ 1073741824 := by omega) (hL : L ≤ 1073741824 := by omega) :
    Calls Try.prog 37 #[.agg #[.bool s, .slice ao n c], .agg #[.bool t, .slice bo m d]] w (RetZ (max K L + 1) w (x + y)) := by
  have hlt := h.lt
  have hlt2 := k.lt
  obtain ⟨h1, xs, h2, rfl⟩ := h
  obtain ⟨k1, ys, k2, rfl⟩ := k
  rw [zv_abs] at hlt hlt2
  refine (whole_Add_walk ao bo n c m d s t xs ys w (by omega) (by omega) h2 k2).mono ?_
  rintro e w' ⟨ro, k, c', sg, M, he, hz, hr, ho, hb⟩
  refine ⟨_, ro, k, c', he, Zn.mk hr hz ?_, ho, hb⟩
  have h3 := max_add_lt (by decide) hlt hlt2
  refine Nat.lt_of_le_of_lt ?_ h3
  have h4 := congrArg Int.natAbs hz
  rw [zv_abs] at h4
  rw [h4]
  have h5 := Int.natAbs_add_le (zv s (val xs)) (zv t (val ys))
  rwa [zv_abs, zv_abs] at h5

/-- The post of a function whose answer is the plain number z. -/
def RetR (K : Nat) (w : World) (z : Int) (e : Ending) (w' : World) : Prop := ∃ ro k c' r, e = .returned (.agg #[.slice ro k c', .bool r]) ∧ Rn K w' ro k c' r z ∧ Below w.heap.size w w'

theorem rFrom (h : Za K w s ao n c x) (hK : K ≤ 100000000 := by omega) : Calls Try.prog 53 #[.agg #[.bool s, .slice ao n c]] w (RetR (3 * K) w x) := by
  obtain ⟨h1, xs, h2, rfl⟩ := h
  refine (rfrom_any ao n c s xs w (by omega) h2).mono ?_
  rintro e w' ⟨ro, k, c', he, hr, hk, hb⟩
  refine ⟨ro, k, c', _, he, ⟨by omega, by rw [zv_abs]; exact hr, (zv_neg _ _).symm⟩, hb⟩

/-- The post of a function whose answer is the number z, normal. -/
def RetN (K : Nat) (w : World) (z : Int) (e : Ending) (w' : World) : Prop := ∃ r ro k c', e = .returned (.agg #[.bool r, .slice ro k c']) ∧ Zn K w' r ro k c' z ∧ Below w.heap.size w w'

theorem rTo (h : Rn K w ao n c s x) (hK : K ≤ 1000000000 := by omega) : Calls Try.prog 22 #[.agg #[.slice ao n c, .bool s]] w (RetN K w x) := by
  obtain ⟨h1, h2, h3⟩ := h
  refine (rto_any ao n c _ s w (by omega) h2).mono ?_
  rintro e w' ⟨ro, k, c', he, hr, hk, hb⟩
  exact ⟨s, ro, k, c', he, ⟨by omega, hr, h3⟩, hb⟩

theorem rMade {N : Nat} {sg : Bool} (hr : Rw .i64 B4 w ao n c (digs4 N)) (hz : zv sg N = x) (hN : N < B4 ^ K) : Calls Try.prog 59 #[.slice ao n c, .bool sg] w (RetR K w x) := by
  refine (rmade_any ao n c N sg w hr).mono ?_
  rintro e w' ⟨he, hb⟩
  exact ⟨ao, n, c, _, he, Rn.mk (hr.ext hb) hz hN, hb⟩

/-- What keep.Int hands back: the same sign, at most k limbs. -/
theorem kInt {k : Nat} (hn : K ≤ 9223372036854775807) (hk : k ≤ 1000000) (h : Za K w s ao n c x) :
    Calls Try.prog 52 #[.agg #[.bool s, .slice ao n c], .int .i64 (k : Int)] w fun e w' => ∃ m z, e = .returned (.agg #[.bool s, .slice ao m c]) ∧ Za k w' s ao m c z ∧ Below w.heap.size w w' := by
  obtain ⟨h1, xs, h2, rfl⟩ := h
  refine (keepInt_any ao n c k s xs w (by omega) hk h2).mono ?_
  rintro e w' ⟨m, he, hm, hr, hb⟩
  exact ⟨m, _, he, ⟨hm, _, hr, rfl⟩, hb⟩
end

end Go.Proofs.Ytkcagkcphobmfaa
