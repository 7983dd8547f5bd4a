/-
  WALKS: limb.Sum: the sum of rows that lie in a row.
-/
import Derived.Test.YtaecondhdfknfaaWe
set_option linter.unusedVariables false
set_option linter.unusedSimpArgs false
namespace Go.Proofs.Ytaecondhdfknfaa
open Go.RowKit

/-- A row of rows: n of them, the numbers of each, none longer than K. -/
def Rws (K : Nat) (w : World) (ao : Option Addr) (n c : Nat) (vs : List Value) (ns : List (List Nat)) : Prop :=
  vs.length = n ∧ n ≤ c ∧ ns.length = n ∧ CellsAt w ao vs ∧ ∀ (j : Nat) (xs : List Nat), ns[j]? = some xs → ∃ a k d, vs[j]? = some (Value.slice a k d) ∧ k ≤ K ∧ Rw .u32 B32 w a k d xs

theorem Rws.ext {K : Nat} {w w' : World} {ao : Option Addr} {n c : Nat} {vs : List Value} {ns : List (List Nat)} (h : Rws K w ao n c vs ns) (he : Below w.heap.size w w') : Rws K w' ao n c vs ns := by
  obtain ⟨h1, h2, h3, h4, h5⟩ := h
  refine ⟨h1, h2, h3, h4.ext he, fun j xs hj => ?_⟩
  obtain ⟨a, k, d, h6, h7, h8⟩ := h5 j xs hj
  exact ⟨a, k, d, h6, h7, h8.ext he⟩

theorem Rws.at {K : Nat} {w : World} {ao : Option Addr} {n c : Nat} {vs : List Value} {ns : List (List Nat)} (h : Rws K w ao n c vs ns) {j : Nat} (hj : j < n) :
    ∃ b off a k d xs, ao = some ⟨b, off, none⟩ ∧ ns[j]? = some xs ∧ w.cell? ⟨b, off + j, none⟩ = some (Value.slice a k d) ∧ k ≤ K ∧ Rw .u32 B32 w a k d xs := by
  obtain ⟨h1, h2, h3, h4, h5⟩ := h
  obtain ⟨a, k, d, h6, h7, h8⟩ := h5 j ns[j] (List.getElem?_eq_getElem (by omega))
  rcases h4 with h4 | ⟨b, off, rfl, h4⟩
  · subst h4; simp at h1; omega
  · refine ⟨b, off, a, k, d, ns[j], rfl, List.getElem?_eq_getElem (by omega), ?_, h7, h8⟩
    rw [h4 j (by omega)]
    rw [List.getElem?_eq_getElem (by omega)] at h6
    exact h6

def sumV (ns : List (List Nat)) : Nat := (ns.map val).sum

theorem sumV_take {ns : List (List Nat)} {j : Nat} {xs : List Nat} (h : ns[j]? = some xs) : sumV (ns.take (j + 1)) = sumV (ns.take j) + val xs := by
  have hj : j < ns.length := by
    rcases Nat.lt_or_ge j ns.length with h1 | h1
    · exact h1
    · rw [List.getElem?_eq_none h1] at h; cases h
  have hx : ns[j] = xs := by rw [List.getElem?_eq_getElem hj] at h; exact Option.some.inj h
  unfold sumV
  rw [List.take_succ_eq_append_getElem hj, List.map_append, List.sum_append]
  simp [hx]

theorem add_lt_pow {a b p q : Nat} (ha : a < B32 ^ p) (hb : b < B32 ^ q) (hq : q ≤ p) : a + b < B32 ^ (p + 1) := by
  have h2 : B32 ^ q ≤ B32 ^ p := Nat.pow_le_pow_right (by decide) hq
  have h3 : B32 ^ (p + 1) = B32 ^ p * B32 := Nat.pow_succ _ _
  have h4 : B32 ^ p * 2 ≤ B32 ^ p * B32 := Nat.mul_le_mul_left _ (by decide)
  omega

theorem len_le_pow {w : World} {k c N K : Nat} {ro : Option Addr} (h : Rw .u32 B32 w ro k c (limbs N)) (hN : N < B32 ^ K) : k ≤ K := by
  have := limbs_le hN
  rwa [h.len] at this

set_option maxHeartbeats 1000000 in
/-- Sum: the sum of all. -/
theorem sum_any (ao : Option Addr) (n c K : Nat) (vs : List Value) (ns : List (List Nat)) (w : World) (hn : n ≤ 1000) (hK : K ≤ 100000) (hr : Rws K w ao n c vs ns) :
    Calls Try.prog 37 #[.slice ao n c] w fun e w' => ∃ ro k c', e = .returned (.slice ro k c') ∧ Rw .u32 B32 w' ro k c' (limbs (sumV ns)) ∧ k ≤ K + n ∧ Below w.heap.size w w' := by
  have hl := hr.2.2.1
  have HL := hid hl; clear hl
  go_enter Try.func37, Try.ntmps37
  go_wp2_with fail
  go_loopw [3, 8] (fun s3 s8 wr => ∃ (i rk rc : Nat) (ro : Option Addr), i ≤ n ∧ s8 = .int .i64 i ∧ s3 = .slice ro rk rc ∧ rk ≤ K + i ∧ Rw .u32 B32 wr ro rk rc (limbs (sumV (ns.take i))) ∧ sumV (ns.take i) < B32 ^ (K + i) ∧ Below w.heap.size w wr) (fun _ s8 _ => n - (intOf s8).toNat)
  case atStart => exact ⟨0, 0, 0, none, Nat.zero_le _, rfl, rfl, by omega, Rw.nil _ _ _, Nat.pow_pos (by decide), Below.refl _ _⟩
  case round =>
    obtain ⟨i, rk, rc, ro, hi, rfl, rfl, hrk, hrow, hlt, hbe⟩ := hrel
    have HLT := hid hlt; clear hlt
    by_cases hin : i < n
    · obtain ⟨b, off, a, k, d, xs, rfl, hxs, hcell, hk, hx⟩ := (hr.ext hbe).at hin
      have HXS := hid hxs; clear hxs
      go_wp2_with fail
      refine (add_any _ _ _ _ _ _ _ xs _ (by omega) (by omega) hrow hx).mono ?_
      rintro e w2 ⟨ro2, rk2, rc2, rfl, hsum, _, hb⟩
      rw [val_limbs, ← sumV_take HXS.out] at hsum
      have hlt2 : sumV (ns.take (i + 1)) < B32 ^ (K + i + 1) := by
        rw [sumV_take HXS.out]
        exact add_lt_pow HLT.out (row_lt hx hk) (by omega)
      have hrk2 := len_le_pow hsum hlt2
      have hb3 := ext_trans hbe hb
      have HLT2 := hid hlt2
      clear hlt2 hrow hb hcell
      go_wp2
      go_roundw
      case rel => exact ⟨i + 1, rk2, rc2, ro2, by omega, by go_num, rfl, by omega, hsum, HLT2.out, hb3⟩
      case measure => simp [intOf]; omega
    · obtain rfl : i = n := by omega
      rw [List.take_of_length_le (by rw [HL.out]; exact Nat.le_refl _)] at hrow
      go_wp2
      go_ret
      exact ⟨_, _, _, rfl, hrow, hrk, hbe⟩

/-- Two rows laid side by side by the text. -/
theorem two_rws {K : Nat} {w : World} {t : TypeId} {a1 a2 : Option Addr} {k1 d1 k2 d2 : Nat} {xs ys : List Nat} (h1 : Rw .u32 B32 w a1 k1 d1 xs) (h2 : Rw .u32 B32 w a2 k2 d2 ys) (hk1 : k1 ≤ K) (hk2 : k2 ≤ K) :
    Rws K (w.alloc (.cells #[.slice a1 k1 d1, .slice a2 k2 d2] t)) (some ⟨w.heap.size, 0, none⟩) 2 2 [Value.slice a1 k1 d1, Value.slice a2 k2 d2] [xs, ys] := by
  have hb := Blk.new w t [Value.slice a1 k1 d1, .slice a2 k2 d2]
  have he := alloc_ext w (.cells #[.slice a1 k1 d1, .slice a2 k2 d2] t)
  refine ⟨rfl, Nat.le_refl _, rfl, Or.inr ⟨_, _, rfl, fun j hj => ?_⟩, fun j zs hj => ?_⟩
  · rw [Nat.zero_add]; exact hb.cell j hj
  · match j, hj with
    | 0, hj => cases hj; exact ⟨_, _, _, rfl, hk1, h1.ext he⟩
    | 1, hj => cases hj; exact ⟨_, _, _, rfl, hk2, h2.ext he⟩
    | _ + 2, hj => cases hj

end Go.Proofs.Ytaecondhdfknfaa
