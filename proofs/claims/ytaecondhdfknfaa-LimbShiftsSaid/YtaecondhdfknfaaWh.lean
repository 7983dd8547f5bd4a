/-
  THE WALK OF THE STATEMENT ON WHAT IS MOVED UP AND DOWN.
-/
import Derived.Test.YtaecondhdfknfaaWg
import Derived.Test.YtaecondhdfknfaaRf
set_option linter.unusedVariables false
set_option linter.unusedSimpArgs false
namespace Go.Proofs.Ytaecondhdfknfaa
open Go.RowKit

theorem max_of {v : Int} (h2 : v ≤ 600) : ∃ k : Nat, max v 0 = (k : Int) ∧ clampN v = k ∧ k ≤ 600 := ⟨(max v 0).toNat, by omega, by unfold clampN; omega, by omega⟩

theorem int_beq (a : Int) : (a == a) = true := by simp

set_option maxHeartbeats 4000000 in
theorem limbShifts_walk (ao : Option Addr) (n c : Nat) (z : Int) (xs0 : List Nat) (w : World) (hn : n ≤ 9223372036854775807) (hz1 : -9223372036854775808 ≤ z) (hz2 : z ≤ 9223372036854775807) (hr0 : Rw .u32 B32 w ao n c xs0) :
    Calls Try.prog 5 #[.slice ao n c, .int .i64 z] w fun e w' => e = .returned (.bool true) ∧ Below w.heap.size w w' := by
  go_enter Try.func5, Try.ntmps5
  go_wp2_with fail
  refine (row_any _ _ _ 16 _ _ hn (by omega) hr0).mono ?_
  rintro e w0 ⟨n1, rfl, hn1, _, hr, rfl⟩
  obtain ⟨xs, hxs⟩ : ∃ xs, xs = xs0.take 16 := ⟨_, rfl⟩
  rw [← hxs] at hr
  clear hxs hr0
  obtain ⟨A, AN⟩ : ∃ N, N = val xs := ⟨_, rfl⟩
  have Al : A < B32 ^ 16 := by rw [AN]; exact row_lt hr hn1
  go_upto_if 15 with (fail)
  go_cut [1] (fun s1 wx => ∃ (v : Int), s1 = .int .i64 v ∧ -9223372036854775808 ≤ v ∧ v ≤ 600 ∧ wx = w)
  case first =>
    by_cases h6 : 600 < z
    · have hd : decide (600 < z) = true := decide_eq_true h6
      go_wp2_with fail
      refine (within_any z 600 _ (by omega) (by omega) hz1 hz2).mono ?_
      rintro e w0 ⟨rfl, rfl⟩
      obtain ⟨v, hv, hv1, hv2⟩ : ∃ v : Int, v = z % ((600 : Nat) : Int) ∧ 0 ≤ v ∧ v < 600 := ⟨_, rfl, by omega, by omega⟩
      rw [← hv]
      clear hv
      go_wp2_with fail
      go_meet
      exact ⟨v, rfl, by omega, by omega, rfl⟩
    · have hd : decide (600 < z) = false := decide_eq_false h6
      go_wp2_with fail
      go_meet
      exact ⟨z, rfl, by omega, by omega, rfl⟩
  case rest =>
    obtain ⟨v, rfl, hv1, hv2, rfl⟩ := hcut
    obtain ⟨k, hmax, hck, hk6⟩ := max_of hv2
    have HCK := hid hck; clear hck hz1 hz2
    go_wp2_with fail
    refine (lend_any _ _ _ _ _ (by omega) hr).mono ?_
    rintro e x1 ⟨G, rfl, hG, hbx, hb⟩
    replace hr := hr.ext hb
    have hB := hb
    clear hb
    have hG1 : wc.heap.size ≤ G := hG
    clear hG
    go_wp2_with fail
    · obtain rfl : k = 0 := by omega
      clear hmax hv1 hv2
      refine (powN_any 0 _ (by omega)).mono ?_
      rintro e x2 ⟨po, pn, pc, rfl, hp, hpn, hb⟩
      replace hr := hr.ext hb
      replace hbx := hbx.ext hb
      replace hB := ext_trans hB hb
      clear hb
      go_wp2_with fail
      refine (shl_any _ _ _ xs v _ (by omega) (lent_rw hr hbx)).mono ?_
      rintro e x3 ⟨uo, un, uc, rfl, hu, _, hb⟩
      replace hr := hr.ext hb
      replace hbx := hbx.ext hb
      replace hp := hp.ext hb
      replace hB := ext_trans hB hb
      clear hb
      rw [HCK.out, ← AN] at hu
      have hun : un ≤ 35 := by have := len_lt hu (shl_lt (L := 19) Al (by omega)); omega
      go_wp2_with fail
      refine (shr_any _ _ _ xs v _ (by omega) (lent_rw hr hbx)).mono ?_
      rintro e x4 ⟨eo, en, ec, rfl, hd, _, hb⟩
      replace hr := hr.ext hb
      replace hbx := hbx.ext hb
      replace hp := hp.ext hb
      replace hu := hu.ext hb
      replace hB := ext_trans hB hb
      clear hb
      rw [HCK.out, ← AN] at hd
      have hen : en ≤ 16 := by have := len_lt hd (Nat.lt_of_le_of_lt (Nat.div_le_self A _) Al); omega
      go_wp2_with fail
      refine (from_any _ _ _ _ _ (by omega) hr).mono ?_
      rintro e x5 ⟨fo, fn, fc, rfl, hf, hfn, hb⟩
      replace hr := hr.ext hb
      replace hbx := hbx.ext hb
      replace hp := hp.ext hb
      replace hu := hu.ext hb
      replace hd := hd.ext hb
      replace hB := ext_trans hB hb
      clear hb
      rw [← AN] at hf
      go_wp2_with fail
      refine (divN_any _ _ _ _ _ _ _ _ _ (by omega) (by omega) (Nat.two_pow_pos 0) hf hp).mono ?_
      rintro e x6 ⟨qo, qn, qc, ro, rn, rc, rfl, hq, hqn, hre, hrn, hb⟩
      replace hr := hr.ext hb
      replace hbx := hbx.ext hb
      replace hp := hp.ext hb
      replace hu := hu.ext hb
      replace hd := hd.ext hb
      replace hf := hf.ext hb
      replace hB := ext_trans hB hb
      clear hb
      clear hf hre hrn
      go_wp2_with fail
      refine (from_any _ _ _ _ _ (by omega) hr).mono ?_
      rintro e x7 ⟨fo2, fn2, fc2, rfl, hf, hfn2, hb⟩
      replace hr := hr.ext hb
      replace hbx := hbx.ext hb
      replace hp := hp.ext hb
      replace hu := hu.ext hb
      replace hd := hd.ext hb
      replace hq := hq.ext hb
      replace hB := ext_trans hB hb
      clear hb
      rw [← AN] at hf
      go_wp2_with fail
      refine (mulN_any _ _ _ _ _ _ _ _ _ (by omega) (by omega) hf hp).mono ?_
      rintro e x8 ⟨mo, mn, mc, rfl, hm, hmn, hb⟩
      replace hr := hr.ext hb
      replace hbx := hbx.ext hb
      replace hp := hp.ext hb
      replace hu := hu.ext hb
      replace hd := hd.ext hb
      replace hq := hq.ext hb
      replace hf := hf.ext hb
      replace hB := ext_trans hB hb
      clear hb
      clear hf hp
      go_wp2_with fail
      refine (is_any _ _ _ _ _ _ _ _ _ (by omega) (by omega) hm hu).mono ?_
      rintro e x9 ⟨rfl, hb⟩
      replace hr := hr.ext hb
      replace hbx := hbx.ext hb
      replace hu := hu.ext hb
      replace hd := hd.ext hb
      replace hq := hq.ext hb
      replace hm := hm.ext hb
      replace hB := ext_trans hB hb
      clear hb
      rw [decide_true (rfl : limbs (A * 2 ^ 0) = limbs (A * 2 ^ 0))]
      clear hm hu
      go_wp2_with fail
      refine (is_any _ _ _ _ _ _ _ _ _ (by omega) (by omega) hq hd).mono ?_
      rintro e x10 ⟨rfl, hb⟩
      replace hr := hr.ext hb
      replace hbx := hbx.ext hb
      replace hd := hd.ext hb
      replace hq := hq.ext hb
      replace hB := ext_trans hB hb
      clear hb
      rw [decide_true (rfl : limbs (A / 2 ^ 0) = limbs (A / 2 ^ 0))]
      clear hq hd
      go_wp2_with fail
      refine (bits_any _ _ _ xs _ (by omega) (lent_rw hr hbx)).mono ?_
      rintro e _ ⟨rfl, rfl⟩
      rw [← AN]
      obtain ⟨nb, hnb⟩ : ∃ nb, nb = nbits A := ⟨_, rfl⟩
      rw [← hnb]
      have HNB := hid hnb; clear hnb
      go_wp2_with fail
      refine (from_any _ _ _ _ _ (by omega) hr).mono ?_
      rintro e x11 ⟨fo3, fn3, fc3, rfl, hf, hfn3, hb⟩
      replace hr := hr.ext hb
      replace hbx := hbx.ext hb
      replace hB := ext_trans hB hb
      clear hb
      rw [← AN] at hf
      go_wp2_with fail
      refine (bitsN_any _ _ _ _ _ (by omega) hf).mono ?_
      rintro e x12 ⟨rfl, hb⟩
      replace hr := hr.ext hb
      replace hbx := hbx.ext hb
      replace hf := hf.ext hb
      replace hB := ext_trans hB hb
      clear hb
      rw [← HNB.out]
      have hnbb := int_beq (nb : Int)
      clear HNB hf
      go_wp2_with fail
      refine (intact_any _ _ _ _ _ _ (by omega) hr hbx).mono ?_
      rintro e x13 ⟨rfl, hb⟩
      replace hr := hr.ext hb
      replace hbx := hbx.ext hb
      replace hB := ext_trans hB hb
      clear hb
      go_wp2_with fail
      refine (wakes_any _).mono ?_
      rintro e x14 ⟨rfl, hb⟩
      replace hr := hr.ext hb
      replace hbx := hbx.ext hb
      replace hB := ext_trans hB hb
      clear hb
      go_wp2
      go_ret
      exact ⟨rfl, hB⟩
    · obtain rfl : v = (k : Int) := by omega
      clear hmax hv1 hv2
      refine (powN_any k _ (by omega)).mono ?_
      rintro e x2 ⟨po, pn, pc, rfl, hp, hpn, hb⟩
      replace hr := hr.ext hb
      replace hbx := hbx.ext hb
      replace hB := ext_trans hB hb
      clear hb
      go_wp2_with fail
      refine (shl_any _ _ _ xs (k : Int) _ (by omega) (lent_rw hr hbx)).mono ?_
      rintro e x3 ⟨uo, un, uc, rfl, hu, _, hb⟩
      replace hr := hr.ext hb
      replace hbx := hbx.ext hb
      replace hp := hp.ext hb
      replace hB := ext_trans hB hb
      clear hb
      rw [HCK.out, ← AN] at hu
      have hun : un ≤ 35 := by have := len_lt hu (shl_lt (L := 19) Al (by omega)); omega
      go_wp2_with fail
      refine (shr_any _ _ _ xs (k : Int) _ (by omega) (lent_rw hr hbx)).mono ?_
      rintro e x4 ⟨eo, en, ec, rfl, hd, _, hb⟩
      replace hr := hr.ext hb
      replace hbx := hbx.ext hb
      replace hp := hp.ext hb
      replace hu := hu.ext hb
      replace hB := ext_trans hB hb
      clear hb
      rw [HCK.out, ← AN] at hd
      have hen : en ≤ 16 := by have := len_lt hd (Nat.lt_of_le_of_lt (Nat.div_le_self A _) Al); omega
      go_wp2_with fail
      refine (from_any _ _ _ _ _ (by omega) hr).mono ?_
      rintro e x5 ⟨fo, fn, fc, rfl, hf, hfn, hb⟩
      replace hr := hr.ext hb
      replace hbx := hbx.ext hb
      replace hp := hp.ext hb
      replace hu := hu.ext hb
      replace hd := hd.ext hb
      replace hB := ext_trans hB hb
      clear hb
      rw [← AN] at hf
      go_wp2_with fail
      refine (divN_any _ _ _ _ _ _ _ _ _ (by omega) (by omega) (Nat.two_pow_pos k) hf hp).mono ?_
      rintro e x6 ⟨qo, qn, qc, ro, rn, rc, rfl, hq, hqn, hre, hrn, hb⟩
      replace hr := hr.ext hb
      replace hbx := hbx.ext hb
      replace hp := hp.ext hb
      replace hu := hu.ext hb
      replace hd := hd.ext hb
      replace hf := hf.ext hb
      replace hB := ext_trans hB hb
      clear hb
      clear hf hre hrn
      go_wp2_with fail
      refine (from_any _ _ _ _ _ (by omega) hr).mono ?_
      rintro e x7 ⟨fo2, fn2, fc2, rfl, hf, hfn2, hb⟩
      replace hr := hr.ext hb
      replace hbx := hbx.ext hb
      replace hp := hp.ext hb
      replace hu := hu.ext hb
      replace hd := hd.ext hb
      replace hq := hq.ext hb
      replace hB := ext_trans hB hb
      clear hb
      rw [← AN] at hf
      go_wp2_with fail
      refine (mulN_any _ _ _ _ _ _ _ _ _ (by omega) (by omega) hf hp).mono ?_
      rintro e x8 ⟨mo, mn, mc, rfl, hm, hmn, hb⟩
      replace hr := hr.ext hb
      replace hbx := hbx.ext hb
      replace hp := hp.ext hb
      replace hu := hu.ext hb
      replace hd := hd.ext hb
      replace hq := hq.ext hb
      replace hf := hf.ext hb
      replace hB := ext_trans hB hb
      clear hb
      clear hf hp
      go_wp2_with fail
      refine (is_any _ _ _ _ _ _ _ _ _ (by omega) (by omega) hm hu).mono ?_
      rintro e x9 ⟨rfl, hb⟩
      replace hr := hr.ext hb
      replace hbx := hbx.ext hb
      replace hu := hu.ext hb
      replace hd := hd.ext hb
      replace hq := hq.ext hb
      replace hm := hm.ext hb
      replace hB := ext_trans hB hb
      clear hb
      rw [decide_true (rfl : limbs (A * 2 ^ k) = limbs (A * 2 ^ k))]
      clear hm hu
      go_wp2_with fail
      refine (is_any _ _ _ _ _ _ _ _ _ (by omega) (by omega) hq hd).mono ?_
      rintro e x10 ⟨rfl, hb⟩
      replace hr := hr.ext hb
      replace hbx := hbx.ext hb
      replace hd := hd.ext hb
      replace hq := hq.ext hb
      replace hB := ext_trans hB hb
      clear hb
      rw [decide_true (rfl : limbs (A / 2 ^ k) = limbs (A / 2 ^ k))]
      clear hq hd
      go_wp2_with fail
      refine (bits_any _ _ _ xs _ (by omega) (lent_rw hr hbx)).mono ?_
      rintro e _ ⟨rfl, rfl⟩
      rw [← AN]
      obtain ⟨nb, hnb⟩ : ∃ nb, nb = nbits A := ⟨_, rfl⟩
      rw [← hnb]
      have HNB := hid hnb; clear hnb
      go_wp2_with fail
      refine (from_any _ _ _ _ _ (by omega) hr).mono ?_
      rintro e x11 ⟨fo3, fn3, fc3, rfl, hf, hfn3, hb⟩
      replace hr := hr.ext hb
      replace hbx := hbx.ext hb
      replace hB := ext_trans hB hb
      clear hb
      rw [← AN] at hf
      go_wp2_with fail
      refine (bitsN_any _ _ _ _ _ (by omega) hf).mono ?_
      rintro e x12 ⟨rfl, hb⟩
      replace hr := hr.ext hb
      replace hbx := hbx.ext hb
      replace hf := hf.ext hb
      replace hB := ext_trans hB hb
      clear hb
      rw [← HNB.out]
      have hnbb := int_beq (nb : Int)
      clear HNB hf
      go_wp2_with fail
      refine (intact_any _ _ _ _ _ _ (by omega) hr hbx).mono ?_
      rintro e x13 ⟨rfl, hb⟩
      replace hr := hr.ext hb
      replace hbx := hbx.ext hb
      replace hB := ext_trans hB hb
      clear hb
      go_wp2_with fail
      refine (wakes_any _).mono ?_
      rintro e x14 ⟨rfl, hb⟩
      replace hr := hr.ext hb
      replace hbx := hbx.ext hb
      replace hB := ext_trans hB hb
      clear hb
      go_wp2
      go_ret
      exact ⟨rfl, hB⟩

end Go.Proofs.Ytaecondhdfknfaa
