/-
  THE WALK OF THE STATEMENT ON SUMS AND DIFFERENCES.
-/
import Derived.Test.YtaecondhdfknfaaWb
import Derived.Test.YtaecondhdfknfaaRd
set_option linter.unusedVariables false
set_option linter.unusedSimpArgs false
namespace Go.Proofs.Ytaecondhdfknfaa
open Go.RowKit

theorem sum_lt {a b m n : Nat} (ha : a < B32 ^ m) (hb : b < B32 ^ n) : a + b < B32 ^ (m + n + 1) := by
  have h1 : B32 ^ m ≤ B32 ^ (m + n) := Nat.pow_le_pow_right (by decide) (by omega)
  have h2 : B32 ^ n ≤ B32 ^ (m + n) := Nat.pow_le_pow_right (by decide) (by omega)
  have h3 : B32 ^ (m + n + 1) = B32 ^ (m + n) * B32 := Nat.pow_succ _ _
  have h4 : B32 ^ (m + n) * 2 ≤ B32 ^ (m + n) * B32 := Nat.mul_le_mul_left _ (by decide)
  omega

theorem cmpZ_ge {a b : Int} : 0 ≤ cmpZ a b ↔ b ≤ a := by
  unfold cmpZ
  split
  · omega
  · split <;> omega

theorem bne_same (z : Int) : (z != z) = false := by simp

set_option maxHeartbeats 4000000 in
theorem limbAdds_walk (ao bo : Option Addr) (n c m d : Nat) (xs0 ys0 : List Nat) (w : World) (hn : n ≤ 9223372036854775807) (hm : m ≤ 9223372036854775807) (hr0 : Rw .u32 B32 w ao n c xs0) (hs0 : Rw .u32 B32 w bo m d ys0) :
    Calls Try.prog 7 #[.slice ao n c, .slice bo m d] w fun e w' => e = .returned (.bool true) ∧ Below w.heap.size w w' := by
  go_enter Try.func7, Try.ntmps7
  go_wp2_with fail
  refine (row_any _ _ _ 30 _ _ hn (by omega) hr0).mono ?_
  rintro e w0 ⟨n1, rfl, hn1, _, hr, rfl⟩
  go_wp2_with fail
  refine (row_any _ _ _ 30 _ _ hm (by omega) hs0).mono ?_
  rintro e w0 ⟨m1, rfl, hm1, _, hs, rfl⟩
  obtain ⟨xs, hxs⟩ : ∃ xs, xs = xs0.take 30 := ⟨_, rfl⟩
  obtain ⟨ys, hys⟩ : ∃ ys, ys = ys0.take 30 := ⟨_, rfl⟩
  rw [← hxs] at hr
  rw [← hys] at hs
  clear hxs hys hr0 hs0
  go_wp2_with fail
  refine (lend_any _ _ _ _ _ (by omega) hr).mono ?_
  rintro e w1 ⟨G1, rfl, hG1, hbx, hb1⟩
  go_wp2_with fail
  refine (lend_any _ _ _ _ _ (by omega) (hs.ext hb1)).mono ?_
  rintro e w2 ⟨G2, rfl, hG2, hby, hb2⟩
  have hbx2 := hbx.ext hb2
  have hb2' := ext_trans hb1 hb2
  have hr2 := hr.ext hb2'
  have hs2 := hs.ext hb2'
  go_wp2_with fail
  refine (from_any _ _ _ _ _ (by omega) hr2).mono ?_
  rintro e w3 ⟨uo, un, uc, rfl, hu, hun, hb3⟩
  go_wp2_with fail
  refine (from_any _ _ _ _ _ (by omega) (hs2.ext hb3)).mono ?_
  rintro e w4 ⟨vo, vn, vc, rfl, hv, hvn, hb4⟩
  have hb4' := ext_trans hb3 hb4
  have hB := ext_trans hb2' hb4'
  have hu4 := hu.ext hb4
  have hbx4 := hbx2.ext hb4'
  have hby4 := hby.ext hb4'
  have hr4 := hr2.ext hb4'
  have hs4 := hs2.ext hb4'
  have hx4 := lent_rw hr hbx4
  have hy4 := lent_rw hs hby4
  clear hbx hby hbx2 hr2 hs2 hb1 hb2 hb3 hb4 hb2' hb4' hu
  go_wp2_with fail
  refine (add_any _ _ _ _ _ _ xs ys _ (by omega) (by omega) hx4 hy4).mono ?_
  rintro e w5 ⟨qo, qn, qc, rfl, hq, hqo, hb5⟩
  have hqn : qn ≤ 61 := by
    have := limbs_le (sum_lt (row_lt hr (show n1 ≤ 30 by omega)) (row_lt hs (show m1 ≤ 30 by omega)))
    rw [hq.len] at this; exact this
  have hs5 := hb5.size
  go_wp2_with fail
  refine (sub_any _ _ _ _ _ _ xs ys _ (by omega) (by omega) (hx4.ext hb5) (hy4.ext hb5)).mono ?_
  rintro e w6 ⟨do_, dn, dc, rfl, hd, hdo, hb6⟩
  have hdn : dn ≤ 30 := by
    have := limbs_le (Nat.lt_of_le_of_lt (Nat.sub_le (val xs) (val ys)) (row_lt hr (show n1 ≤ 30 by omega)))
    rw [hd.len] at this; exact this
  have hb6' := ext_trans hb5 hb6
  go_wp2_with fail
  refine (cmpN_any _ _ _ _ _ _ _ _ _ (by omega) (by omega) (hu4.ext hb6') (hv.ext hb6')).mono ?_
  rintro e w7 ⟨rfl, hb7⟩
  have hb7' := ext_trans hb6' hb7
  have hz := cmpZ_ge (a := (val xs : Int)) (b := (val ys : Int))
  obtain ⟨z, hzz⟩ : ∃ z, z = cmpZ (val xs) (val ys) := ⟨_, rfl⟩
  rw [← hzz] at hz ⊢
  go_wp2_with fail
  refine (addN_any _ _ _ _ _ _ _ _ _ (by omega) (by omega) (hu4.ext hb7') (hv.ext hb7')).mono ?_
  rintro e w8 ⟨ao1, an1, ac1, rfl, ha1, han1, hb8⟩
  have hb8' := ext_trans hb6 (ext_trans hb7 hb8)
  go_wp2_with fail
  refine (is_any _ _ _ _ _ _ _ _ _ (by omega) (by omega) ha1 (hq.ext hb8')).mono ?_
  rintro e w9 ⟨rfl, hb9⟩
  rw [decide_true (rfl : limbs (val xs + val ys) = limbs (val xs + val ys))]
  have hb9' := ext_trans hb7' (ext_trans hb8 hb9)
  go_wp2_with fail
  refine (cmp_any _ _ _ _ _ _ xs ys _ (by omega) (by omega) (hx4.ext hb9') (hy4.ext hb9')).mono ?_
  rintro e w10 ⟨rfl, hb10⟩
  rw [← hzz]
  clear hzz
  have hb10' := ext_trans hb9' hb10
  have hzb := bne_same z
  have hq10 := ext_trans hb6 (ext_trans hb7 (ext_trans hb8 (ext_trans hb9 hb10)))
  have hd10 := ext_trans hb7 (ext_trans hb8 (ext_trans hb9 hb10))
  clear hb5 hb6 hb7 hb8 hb9 hb10 hb6' hb7' hb8' hb9'
  by_cases hle : val ys ≤ val xs
  · have hz0 : 0 ≤ z := hz.2 (by omega)
    have hdec : decide (val ys ≤ val xs) = true := decide_eq_true hle
    rw [hdec]
    clear hz
    go_wp2_with fail
    refine (subN_any _ _ _ _ _ _ _ _ _ (by omega) (by omega) hle (hu4.ext hb10') (hv.ext hb10')).mono ?_
    rintro e w11 ⟨ao2, an2, ac2, rfl, ha2, han2, hb11⟩
    go_wp2_with fail
    refine (is_any _ _ _ _ _ _ _ _ _ (by omega) (by omega) ha2 (hd.ext (ext_trans hd10 hb11))).mono ?_
    rintro e w12 ⟨rfl, hb12⟩
    rw [decide_true (rfl : limbs (val xs - val ys) = limbs (val xs - val ys))]
    have hbk := ext_trans hb10' (ext_trans hb11 hb12)
    have hqk := ext_trans hq10 (ext_trans hb11 hb12)
    have hdk := ext_trans hd10 (ext_trans hb11 hb12)
    clear hb11 hb12
    go_wp2_with fail
    refine (norm_any _ _ _ xs _ (by omega) (hx4.ext hbk)).mono ?_
    rintro e w13 ⟨zo, zn, zc, rfl, hzn, hz, hzo, hb13⟩
    have hb13' := ext_trans hbk hb13
    go_wp2_with fail
    refine (spoil_any _ _ _ _ _ hq.le (hqo.ext (ext_trans hqk hb13)) _ (hqo.ext hqk).lt).mono ?_
    rintro e w14 ⟨rfl, hb14, hall14, hkeep14⟩
    have hz14 := hz.keep hzo hkeep14
    have hzo14 := hall14 _ _ _ hzo
    have hdo14 := hall14 _ _ _ (hdo.ext (ext_trans hdk hb13))
    have hb14' := hb13'.trans hb14
    clear hall14 hkeep14
    go_wp2_with fail
    refine (spoil_any _ _ _ _ _ hd.le (hdo14.mono hs5) _ (hdo.ext hdk).lt).mono ?_
    rintro e w15 ⟨rfl, hb15, hall15, hkeep15⟩
    have hz15 := hz14.keep hzo14 hkeep15
    have hzo15 := hall15 _ _ _ hzo14
    have hb15' := hb14'.trans hb15
    clear hall15 hkeep15
    go_wp2_with fail
    refine (is_any _ _ _ _ _ _ _ _ _ (by omega) (by omega) (hu4.ext hb15') hz15).mono ?_
    rintro e w16 ⟨rfl, hb16⟩
    rw [decide_true (rfl : limbs (val xs) = limbs (val xs))]
    have hb16' := hb15'.trans (hb16.mono hb15'.size)
    go_wp2_with fail
    refine (spoil_any _ _ _ w4.heap.size _ hz.le ((hzo15.ext hb16).mono hbk.size) _ ((hzo15.ext hb16).lt)).mono ?_
    rintro e w17 ⟨rfl, hb17, _, _⟩
    have hb17' := hb16'.trans hb17
    have hbx10 := hbx4.ext hb17'
    have hby10 := hby4.ext hb17'
    have hr10 := hr4.ext hb17'
    have hs10 := hs4.ext hb17'
    go_wp2_with fail
    refine (intact_any _ _ _ _ _ _ (by omega) hr10 hbx10).mono ?_
    rintro e w21 ⟨rfl, hb21⟩
    go_wp2_with fail
    refine (intact_any _ _ _ _ _ _ (by omega) (hs10.ext hb21) (hby10.ext hb21)).mono ?_
    rintro e w22 ⟨rfl, hb22⟩
    go_wp2_with fail
    refine (wakes_any _).mono ?_
    rintro e w23 ⟨rfl, hb23⟩
    go_wp2
    go_ret
    exact ⟨rfl, ext_trans (ext_trans hB hb17') (ext_trans hb21 (ext_trans hb22 hb23))⟩
  · have hz0 : z < 0 := by
      have : ¬ 0 ≤ z := fun h => by have := hz.1 h; omega
      omega
    have hdec : decide (val ys ≤ val xs) = false := decide_eq_false hle
    rw [hdec]
    have hd0 : dn = 0 := by
      have h := hd.len
      rw [show val xs - val ys = 0 by omega] at h
      exact h.symm
    subst hd0
    have hbk := hb10'
    have hqk := hq10
    have hdk := hd10
    clear hz hle hdec
    go_wp2_with fail
    refine (norm_any _ _ _ xs _ (by omega) (hx4.ext hbk)).mono ?_
    rintro e w13 ⟨zo, zn, zc, rfl, hzn, hz, hzo, hb13⟩
    have hb13' := ext_trans hbk hb13
    go_wp2_with fail
    refine (spoil_any _ _ _ _ _ hq.le (hqo.ext (ext_trans hqk hb13)) _ (hqo.ext hqk).lt).mono ?_
    rintro e w14 ⟨rfl, hb14, hall14, hkeep14⟩
    have hz14 := hz.keep hzo hkeep14
    have hzo14 := hall14 _ _ _ hzo
    have hdo14 := hall14 _ _ _ (hdo.ext (ext_trans hdk hb13))
    have hb14' := hb13'.trans hb14
    clear hall14 hkeep14
    go_wp2_with fail
    refine (spoil_any _ _ _ _ _ hd.le (hdo14.mono hs5) _ (hdo.ext hdk).lt).mono ?_
    rintro e w15 ⟨rfl, hb15, hall15, hkeep15⟩
    have hz15 := hz14.keep hzo14 hkeep15
    have hzo15 := hall15 _ _ _ hzo14
    have hb15' := hb14'.trans hb15
    clear hall15 hkeep15
    go_wp2_with fail
    refine (is_any _ _ _ _ _ _ _ _ _ (by omega) (by omega) (hu4.ext hb15') hz15).mono ?_
    rintro e w16 ⟨rfl, hb16⟩
    rw [decide_true (rfl : limbs (val xs) = limbs (val xs))]
    have hb16' := hb15'.trans (hb16.mono hb15'.size)
    go_wp2_with fail
    refine (spoil_any _ _ _ w4.heap.size _ hz.le ((hzo15.ext hb16).mono hbk.size) _ ((hzo15.ext hb16).lt)).mono ?_
    rintro e w17 ⟨rfl, hb17, _, _⟩
    have hb17' := hb16'.trans hb17
    have hbx10 := hbx4.ext hb17'
    have hby10 := hby4.ext hb17'
    have hr10 := hr4.ext hb17'
    have hs10 := hs4.ext hb17'
    go_wp2_with fail
    refine (intact_any _ _ _ _ _ _ (by omega) hr10 hbx10).mono ?_
    rintro e w21 ⟨rfl, hb21⟩
    go_wp2_with fail
    refine (intact_any _ _ _ _ _ _ (by omega) (hs10.ext hb21) (hby10.ext hb21)).mono ?_
    rintro e w22 ⟨rfl, hb22⟩
    go_wp2_with fail
    refine (wakes_any _).mono ?_
    rintro e w23 ⟨rfl, hb23⟩
    go_wp2
    go_ret
    exact ⟨rfl, ext_trans (ext_trans hB hb17') (ext_trans hb21 (ext_trans hb22 hb23))⟩

end Go.Proofs.Ytaecondhdfknfaa
