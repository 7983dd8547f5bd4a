/-
  THE WALK OF THE STATEMENT ON DIVISION.
-/
import Derived.Test.YtaecondhdfknfaaWa
set_option linter.unusedVariables false
set_option linter.unusedSimpArgs false
namespace Go.Proofs.Ytaecondhdfknfaa
open Go.RowKit

theorem decide_true {p : Prop} [Decidable p] (h : p) : decide p = true := decide_eq_true h

theorem row_lt {w : World} {ao : Option Addr} {n c K : Nat} {xs : List Nat} (hr : Rw .u32 B32 w ao n c xs) (h : n ≤ K) : val xs < B32 ^ K :=
  Nat.lt_of_lt_of_le (val_lt hr.lt) (Nat.pow_le_pow_right (by decide) (by rw [hr.len]; exact h))

set_option maxHeartbeats 2000000 in
theorem limbDivs_walk (ao bo : Option Addr) (n c m d : Nat) (xs0 ys0 : List Nat) (w : World) (hn : n ≤ 9223372036854775807) (hm : m ≤ 9223372036854775807) (hr0 : Rw .u32 B32 w ao n c xs0) (hs0 : Rw .u32 B32 w bo m d ys0) :
    Calls Try.prog 3 #[.slice ao n c, .slice bo m d] w fun e w' => e = .returned (.bool true) ∧ Below w.heap.size w w' := by
  go_enter Try.func3, Try.ntmps3
  go_wp2_with fail
  refine (row_any _ _ _ 20 _ _ hn (by omega) hr0).mono ?_
  rintro e w0 ⟨n1, rfl, hn1, _, hr, rfl⟩
  go_wp2_with fail
  refine (row_any _ _ _ 14 _ _ hm (by omega) hs0).mono ?_
  rintro e w0 ⟨m1, rfl, hm1, _, hs, rfl⟩
  obtain ⟨xs, hxs⟩ : ∃ xs, xs = xs0.take 20 := ⟨_, rfl⟩
  obtain ⟨ys, hys⟩ : ∃ ys, ys = ys0.take 14 := ⟨_, rfl⟩
  rw [← hxs] at hr
  rw [← hys] at hs
  clear hxs hys hr0 hs0
  go_wp2_with fail
  refine (lend_any _ _ _ _ _ (by omega) hr).mono ?_
  rintro e w1 ⟨G1, rfl, hG1, hbx, hb1⟩
  go_wp2_with fail
  refine (lend_any _ _ _ _ _ (by omega) (hs.ext hb1)).mono ?_
  rintro e w2 ⟨G2, rfl, hG2, hby, hb2⟩
  have hbx2 := hbx.ext hb2
  have hb2' := ext_trans hb1 hb2
  have hr2 := hr.ext hb2'
  have hs2 := hs.ext hb2'
  go_wp2_with fail
  refine (divmod_any _ _ _ _ _ _ xs ys _ (by omega) (by omega) (lent_rw hr hbx2) (lent_rw hs hby)).mono ?_
  rintro e w3 ⟨qo, qn, qc, ro, rn, rc, rfl, hq, hqo, hre, hreo, hb3⟩
  go_wp2_with fail
  refine (from_any _ _ _ _ _ (by omega) (hs2.ext hb3)).mono ?_
  rintro e w4 ⟨vo, vn, vc, rfl, hv, hvn, hb4⟩
  have hb4' := ext_trans hb3 hb4
  by_cases h0 : val ys = 0
  · rw [h0] at hv hq hre ⊢
    have hvn0 : vn = 0 := hv.len.symm
    have hq0 : qn = 0 := by have := hq.len; rw [Nat.div_zero] at this; exact this.symm
    have hr0 : rn = 0 := hre.len.symm
    subst hvn0 hq0 hr0
    rw [divErr_zero]
    have hb := ext_trans hb2' hb4'
    clear hv hq hre hqo hreo
    go_wp2_with fail
    refine (wakes_any _).mono ?_
    rintro e w5 ⟨rfl, hb5⟩
    go_wp2
    go_ret
    exact ⟨rfl, ext_trans hb hb5⟩
  · have hvp : 0 < val ys := Nat.pos_of_ne_zero h0
    rw [divErr_pos h0]
    rw [modZ_pos _ h0] at hre
    have hvn1 : vn ≠ 0 := by
      intro h
      subst h
      exact h0 (digs4_eq_nil.1 (List.length_eq_zero_iff.1 hv.len))
    have hvn0 : ((vn : Int) == 0) = false := by rw [beq_eq_false_iff_ne]; omega
    go_wp2_with fail
    refine (from_any _ _ _ _ _ (by omega) (hr2.ext hb4')).mono ?_
    rintro e w5 ⟨uo, un, uc, rfl, hu, hun, hb5⟩
    have hv5 := hv.ext hb5
    go_wp2_with fail
    refine (divN_any _ _ _ _ _ _ _ _ _ (by omega) (by omega) hvp hu hv5).mono ?_
    rintro e w6 ⟨ao1, an1, ac1, ao2, an2, ac2, rfl, ha1, han1, ha2, han2, hb6⟩
    have hb6' := ext_trans hb4 (ext_trans hb5 hb6)
    go_wp2_with fail
    have hqn : qn ≤ 20 := by
      have := limbs_le (k := 20) (Nat.lt_of_le_of_lt (Nat.div_le_self (val xs) (val ys)) (row_lt hr (by omega)))
      rw [hq.len] at this; exact this
    have hrn : rn ≤ 20 := by
      have := limbs_le (k := 20) (Nat.lt_of_le_of_lt (Nat.mod_le (val xs) (val ys)) (row_lt hr (by omega)))
      rw [hre.len] at this; exact this
    refine (is_any _ _ _ _ _ _ _ _ _ (by omega) (by omega) ha1 (hq.ext hb6')).mono ?_
    rintro e w7 ⟨rfl, hb7⟩
    rw [decide_true (rfl : limbs (val xs / val ys) = limbs (val xs / val ys))]
    have hb7' := ext_trans hb6' hb7
    go_wp2_with fail
    refine (is_any _ _ _ _ _ _ _ _ _ (by omega) (by omega) (ha2.ext hb7) (hre.ext hb7')).mono ?_
    rintro e w8 ⟨rfl, hb8⟩
    rw [decide_true (rfl : limbs (val xs % val ys) = limbs (val xs % val ys))]
    have hb8' := ext_trans hb7' hb8
    go_wp2_with fail
    refine (spoil_any _ _ _ _ _ hq.le (hqo.ext hb8') w3.heap.size (hqo.lt)).mono ?_
    rintro e w9 ⟨rfl, hb9, hall, _⟩
    have hreo9 := hall _ _ _ (hreo.ext hb8')
    clear hall
    go_wp2_with fail
    refine (spoil_any _ _ _ w2.heap.size _ hre.le hreo9 w3.heap.size (hreo.lt)).mono ?_
    rintro e w10 ⟨rfl, hb10, _, _⟩
    have hb10' := ((ext_trans hb3 hb8').trans hb9).trans hb10
    have hbx10 := hbx2.ext hb10'
    have hby10 := hby.ext hb10'
    have hr10 := hr2.ext hb10'
    have hs10 := hs2.ext hb10'
    go_wp2_with fail
    refine (intact_any _ _ _ _ _ _ (by omega) hr10 hbx10).mono ?_
    rintro e w11 ⟨rfl, hb11⟩
    go_wp2_with fail
    refine (intact_any _ _ _ _ _ _ (by omega) (hs10.ext hb11) (hby10.ext hb11)).mono ?_
    rintro e w12 ⟨rfl, hb12⟩
    go_wp2_with fail
    refine (wakes_any _).mono ?_
    rintro e w13 ⟨rfl, hb13⟩
    go_wp2
    go_ret
    exact ⟨rfl, ext_trans (ext_trans hb2' hb10') (ext_trans hb11 (ext_trans hb12 hb13))⟩

end Go.Proofs.Ytaecondhdfknfaa
