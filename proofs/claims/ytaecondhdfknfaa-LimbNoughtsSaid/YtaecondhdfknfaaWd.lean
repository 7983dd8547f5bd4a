/-
  THE WALK OF THE STATEMENT ON PRODUCTS.
-/
import Derived.Test.YtaecondhdfknfaaWb
import Derived.Test.YtaecondhdfknfaaRe
set_option linter.unusedVariables false
set_option linter.unusedSimpArgs false
namespace Go.Proofs.Ytaecondhdfknfaa
open Go.RowKit

theorem prod_lt {a b m n : Nat} (ha : a < B32 ^ m) (hb : b < B32 ^ n) : a * b < B32 ^ (m + n) := by
  rw [Nat.pow_add]
  have hp : 0 < B32 ^ n := Nat.pow_pos (by decide)
  exact Nat.lt_of_le_of_lt (Nat.mul_le_mul_left a (Nat.le_of_lt hb)) (Nat.mul_lt_mul_of_pos_right ha hp)

set_option maxHeartbeats 2000000 in
theorem limbMuls_walk (ao bo : Option Addr) (n c m d : Nat) (xs0 ys0 : List Nat) (w : World) (hn : n ≤ 9223372036854775807) (hm : m ≤ 9223372036854775807) (hr0 : Rw .u32 B32 w ao n c xs0) (hs0 : Rw .u32 B32 w bo m d ys0) :
    Calls Try.prog 6 #[.slice ao n c, .slice bo m d] w fun e w' => e = .returned (.bool true) ∧ Below w.heap.size w w' := by
  go_enter Try.func6, Try.ntmps6
  go_wp2_with fail
  refine (row_any _ _ _ 24 _ _ hn (by omega) hr0).mono ?_
  rintro e w0 ⟨n1, rfl, hn1, _, hr, rfl⟩
  go_wp2_with fail
  refine (row_any _ _ _ 24 _ _ hm (by omega) hs0).mono ?_
  rintro e w0 ⟨m1, rfl, hm1, _, hs, rfl⟩
  obtain ⟨xs, hxs⟩ : ∃ xs, xs = xs0.take 24 := ⟨_, rfl⟩
  obtain ⟨ys, hys⟩ : ∃ ys, ys = ys0.take 24 := ⟨_, rfl⟩
  rw [← hxs] at hr
  rw [← hys] at hs
  clear hxs hys hr0 hs0
  go_wp2_with fail
  refine (lend_any _ _ _ _ _ (by omega) hr).mono ?_
  rintro e w1 ⟨G1, rfl, hG1, hbx, hb1⟩
  go_wp2_with fail
  refine (lend_any _ _ _ _ _ (by omega) (hs.ext hb1)).mono ?_
  rintro e w2 ⟨G2, rfl, hG2, hby, hb2⟩
  have hbx2 := hbx.ext hb2
  have hb2' := ext_trans hb1 hb2
  have hr2 := hr.ext hb2'
  have hs2 := hs.ext hb2'
  go_wp2_with fail
  refine (mul_any _ _ _ _ _ _ xs ys _ (by omega) (by omega) (lent_rw hr hbx2) (lent_rw hs hby)).mono ?_
  rintro e w3 ⟨qo, qn, qc, rfl, hq, hqo, hb3⟩
  have hqn : qn ≤ 48 := by
    have := limbs_le (prod_lt (row_lt hr (show n1 ≤ 24 by omega)) (row_lt hs (show m1 ≤ 24 by omega)))
    rw [hq.len] at this; exact this
  go_wp2_with fail
  refine (from_any _ _ _ _ _ (by omega) (hr2.ext hb3)).mono ?_
  rintro e w4 ⟨uo, un, uc, rfl, hu, hun, hb4⟩
  have hb4' := ext_trans hb3 hb4
  go_wp2_with fail
  refine (from_any _ _ _ _ _ (by omega) (hs2.ext hb4')).mono ?_
  rintro e w5 ⟨vo, vn, vc, rfl, hv, hvn, hb5⟩
  go_wp2_with fail
  refine (mulN_any _ _ _ _ _ _ _ _ _ (by omega) (by omega) (hu.ext hb5) hv).mono ?_
  rintro e w6 ⟨ao1, an1, ac1, rfl, ha1, han1, hb6⟩
  have hb6' := ext_trans hb4 (ext_trans hb5 hb6)
  go_wp2_with fail
  refine (is_any _ _ _ _ _ _ _ _ _ (by omega) (by omega) ha1 (hq.ext hb6')).mono ?_
  rintro e w7 ⟨rfl, hb7⟩
  rw [decide_true (rfl : limbs (val xs * val ys) = limbs (val xs * val ys))]
  have hb7' := ext_trans hb6' hb7
  go_wp2_with fail
  refine (spoil_any _ _ _ _ _ hq.le (hqo.ext hb7') w3.heap.size (hqo.lt)).mono ?_
  rintro e w9 ⟨rfl, hb9, _, _⟩
  have hb10' := (ext_trans hb3 hb7').trans hb9
  have hbx10 := hbx2.ext hb10'
  have hby10 := hby.ext hb10'
  have hr10 := hr2.ext hb10'
  have hs10 := hs2.ext hb10'
  go_wp2_with fail
  refine (intact_any _ _ _ _ _ _ (by omega) hr10 hbx10).mono ?_
  rintro e w11 ⟨rfl, hb11⟩
  go_wp2_with fail
  refine (intact_any _ _ _ _ _ _ (by omega) (hs10.ext hb11) (hby10.ext hb11)).mono ?_
  rintro e w12 ⟨rfl, hb12⟩
  go_wp2_with fail
  refine (wakes_any _).mono ?_
  rintro e w13 ⟨rfl, hb13⟩
  go_wp2
  go_ret
  exact ⟨rfl, ext_trans (ext_trans hb2' hb10') (ext_trans hb11 (ext_trans hb12 hb13))⟩

end Go.Proofs.Ytaecondhdfknfaa
