/-
  THE WALK OF THE STATEMENT ON PRODUCTS OVER SUMS.
-/
import Derived.Test.YtaecondhdfknfaaWg
import Derived.Test.YtaecondhdfknfaaSa
set_option linter.unusedVariables false
set_option linter.unusedSimpArgs false
namespace Go.Proofs.Ytaecondhdfknfaa
open Go.RowKit

theorem nbits_beq {N : Nat} (h : N = 0) : ((nbits N : Int) == 0) = true := by subst h; rfl
theorem nbits_bne {N : Nat} (h : N ≠ 0) : ((nbits N : Int) == 0) = false := by
  have := nbits_pos h
  rw [beq_eq_false_iff_ne]; omega

set_option maxHeartbeats 4000000 in
theorem limbMore_walk (ao bo co : Option Addr) (n c m d l f : Nat) (z : Int) (xs0 ys0 zs0 : List Nat) (w : World) (hn : n ≤ 9223372036854775807) (hm : m ≤ 9223372036854775807) (hl : l ≤ 9223372036854775807) (hz1 : -9223372036854775808 ≤ z) (hz2 : z ≤ 9223372036854775807) (hr0 : Rw .u32 B32 w ao n c xs0) (hs0 : Rw .u32 B32 w bo m d ys0) (ht0 : Rw .u32 B32 w co l f zs0) :
    Calls Try.prog 12 #[.slice ao n c, .slice bo m d, .slice co l f, .int .i64 z] w fun e w' => e = .returned (.bool true) ∧ Below w.heap.size w w' := by
  go_enter Try.func12, Try.ntmps12
  go_wp2_with fail
  refine (row_any _ _ _ 12 _ _ hn (by omega) hr0).mono ?_
  rintro e w0 ⟨n1, rfl, hn1, _, hr, rfl⟩
  go_wp2_with fail
  refine (row_any _ _ _ 8 _ _ hm (by omega) hs0).mono ?_
  rintro e w0 ⟨m1, rfl, hm1, _, hs, rfl⟩
  go_wp2_with fail
  refine (row_any _ _ _ 8 _ _ hl (by omega) ht0).mono ?_
  rintro e w0 ⟨l1, rfl, hl1, _, ht, rfl⟩
  obtain ⟨xs, hxs⟩ : ∃ xs, xs = xs0.take 12 := ⟨_, rfl⟩
  rw [← hxs] at hr
  clear hxs hr0
  obtain ⟨A, AN⟩ : ∃ N, N = val xs := ⟨_, rfl⟩
  have Al : A < B32 ^ 12 := by rw [AN]; exact row_lt hr hn1
  obtain ⟨ys, hxs⟩ : ∃ xs, xs = ys0.take 8 := ⟨_, rfl⟩
  rw [← hxs] at hs
  clear hxs hs0
  obtain ⟨B, BN⟩ : ∃ N, N = val ys := ⟨_, rfl⟩
  have Bl : B < B32 ^ 8 := by rw [BN]; exact row_lt hs hm1
  obtain ⟨zs, hxs⟩ : ∃ xs, xs = zs0.take 8 := ⟨_, rfl⟩
  rw [← hxs] at ht
  clear hxs ht0
  obtain ⟨C, CN⟩ : ∃ N, N = val zs := ⟨_, rfl⟩
  have Cl : C < B32 ^ 8 := by rw [CN]; exact row_lt ht hl1
  go_wp2_with fail
  refine (within_any z 200 _ (by omega) (by omega) hz1 hz2).mono ?_
  rintro e w0 ⟨rfl, rfl⟩
  obtain ⟨k, hk, hkb, hck⟩ := clampN_of (K := 200) (v := z % ((200 : Nat) : Int)) (by omega) (by omega) (by omega)
  rw [hk] at hck ⊢
  clear hk hz1 hz2
  have HCK := hid hck; clear hck
  go_wp2_with fail
  refine (add_any _ _ _ _ _ _ ys zs _ (by omega) (by omega) hs ht).mono ?_
  rintro e x1 ⟨ro, rk, rc, rfl, h1, _, hb⟩
  replace hr := hr.ext hb
  replace hs := hs.ext hb
  replace ht := ht.ext hb
  have hB := hb
  clear hb
  rw [← BN, ← CN] at h1
  have hrk : rk ≤ 17 := by have := len_lt h1 (sum_lt Bl Cl); omega
  go_wp2_with fail
  refine (mul_any _ _ _ _ _ _ xs _ _ (by omega) (by omega) hr h1).mono ?_
  rintro e x2 ⟨ro2, rk2, rc2, rfl, h2, _, hb⟩
  replace hr := hr.ext hb
  replace hs := hs.ext hb
  replace ht := ht.ext hb
  replace h1 := h1.ext hb
  replace hB := ext_trans hB hb
  clear hb
  rw [val_limbs, ← AN] at h2
  have hrk2 : rk2 ≤ 29 := by have := len_lt h2 (prod_lt Al (sum_lt Bl Cl)); omega
  clear h1
  go_wp2_with fail
  refine (mul_any _ _ _ _ _ _ xs ys _ (by omega) (by omega) hr hs).mono ?_
  rintro e x3 ⟨ro3, rk3, rc3, rfl, h3, _, hb⟩
  replace hr := hr.ext hb
  replace hs := hs.ext hb
  replace ht := ht.ext hb
  replace h2 := h2.ext hb
  replace hB := ext_trans hB hb
  clear hb
  rw [← AN, ← BN] at h3
  have hrk3 : rk3 ≤ 29 := by have := len_lt h3 (prod_lt Al Bl); omega
  go_wp2_with fail
  refine (mul_any _ _ _ _ _ _ xs zs _ (by omega) (by omega) hr ht).mono ?_
  rintro e x4 ⟨ro4, rk4, rc4, rfl, h4, _, hb⟩
  replace hr := hr.ext hb
  replace hs := hs.ext hb
  replace ht := ht.ext hb
  replace h2 := h2.ext hb
  replace h3 := h3.ext hb
  replace hB := ext_trans hB hb
  clear hb
  rw [← AN, ← CN] at h4
  have hrk4 : rk4 ≤ 29 := by have := len_lt h4 (prod_lt Al Cl); omega
  go_wp2_with fail
  have hrr := two_rws (t := 22) h3 h4 hrk3 hrk4
  have hba := alloc_ext x4 (.cells #[.slice ro3 rk3 rc3, .slice ro4 rk4 rc4] 22)
  clear h3 h4
  replace hr := hr.ext hba
  replace hs := hs.ext hba
  replace ht := ht.ext hba
  replace h2 := h2.ext hba
  replace hB := ext_trans hB hba
  clear hba
  generalize x4.alloc (.cells #[.slice ro3 rk3 rc3, .slice ro4 rk4 rc4] 22) = xa at *
  generalize x4.heap.size = g at *
  refine (sum_any _ _ _ _ _ _ _ (by omega) (by omega) hrr).mono ?_
  rintro e x5 ⟨ro5, rk5, rc5, rfl, h5, hrk5, hb⟩
  replace hr := hr.ext hb
  replace hs := hs.ext hb
  replace ht := ht.ext hb
  replace h2 := h2.ext hb
  replace hrr := hrr.ext hb
  replace hB := ext_trans hB hb
  clear hb
  clear hrr
  have hsv : sumV [limbs (A * B), limbs (A * C)] = A * (B + C) := by simp [sumV, val_limbs, Nat.mul_add]
  rw [hsv] at h5
  clear hsv
  go_wp2_with fail
  refine (cmp_any _ _ _ _ _ _ _ _ _ (by omega) (by omega) h2 h5).mono ?_
  rintro e x6 ⟨rfl, hb⟩
  replace hr := hr.ext hb
  replace hs := hs.ext hb
  replace ht := ht.ext hb
  replace h2 := h2.ext hb
  replace h5 := h5.ext hb
  replace hB := ext_trans hB hb
  clear hb
  rw [cmpZ_same]
  clear h2 h5
  go_wp2_with fail
  refine (shl_any _ _ _ xs _ _ (by omega) hr).mono ?_
  rintro e x7 ⟨ro6, rk6, rc6, rfl, h6, _, hb⟩
  replace hr := hr.ext hb
  replace hs := hs.ext hb
  replace ht := ht.ext hb
  replace hB := ext_trans hB hb
  clear hb
  rw [HCK.out, ← AN] at h6
  have hrk6 : rk6 ≤ 22 := by have := len_lt h6 (shl_lt (L := 10) Al (by omega)); omega
  go_wp2_with fail
  have hone := lit_rw x7 1 (by decide) 38
  have hba := alloc_ext x7 (.cells #[.int .u32 1] 38)
  replace hr := hr.ext hba
  replace hs := hs.ext hba
  replace ht := ht.ext hba
  replace h6 := h6.ext hba
  replace hB := ext_trans hB hba
  clear hba
  generalize x7.alloc (.cells #[.int .u32 1] 38) = xb at *
  generalize x7.heap.size = g2 at *
  refine (shl_any _ _ _ [1] _ _ (by omega) hone).mono ?_
  rintro e x8 ⟨ro7, rk7, rc7, rfl, h7, _, hb⟩
  replace hr := hr.ext hb
  replace hs := hs.ext hb
  replace ht := ht.ext hb
  replace h6 := h6.ext hb
  replace hone := hone.ext hb
  replace hB := ext_trans hB hb
  clear hb
  clear hone
  rw [HCK.out, val_one, Nat.one_mul] at h7
  have hrk7 : rk7 ≤ 10 := by have := len_lt h7 (two_pow_lt (K := 10) (by omega)); omega
  go_wp2_with fail
  refine (mul_any _ _ _ _ _ _ xs _ _ (by omega) (by omega) hr h7).mono ?_
  rintro e x9 ⟨ro8, rk8, rc8, rfl, h8, _, hb⟩
  replace hr := hr.ext hb
  replace hs := hs.ext hb
  replace ht := ht.ext hb
  replace h6 := h6.ext hb
  replace h7 := h7.ext hb
  replace hB := ext_trans hB hb
  clear hb
  clear h7
  rw [val_limbs, ← AN] at h8
  have hrk8 : rk8 ≤ 22 := by have := len_lt h8 (shl_lt (L := 10) Al (by omega)); omega
  go_wp2_with fail
  refine (cmp_any _ _ _ _ _ _ _ _ _ (by omega) (by omega) h6 h8).mono ?_
  rintro e x10 ⟨rfl, hb⟩
  replace hr := hr.ext hb
  replace hs := hs.ext hb
  replace ht := ht.ext hb
  replace h6 := h6.ext hb
  replace h8 := h8.ext hb
  replace hB := ext_trans hB hb
  clear hb
  rw [cmpZ_same]
  clear h6 h8
  go_wp2_with fail
  refine (bits_any _ _ _ ys _ (by omega) hs).mono ?_
  rintro e _ ⟨rfl, rfl⟩
  rw [← BN]
  by_cases hB0 : B = 0
  · have hb0 := nbits_beq hB0
    generalize nbits B = nb at hb0 ⊢
    clear hB0
    go_wp2_with fail
    refine (wakes_any _).mono ?_
    rintro e x11 ⟨rfl, hb⟩
    replace hr := hr.ext hb
    replace hs := hs.ext hb
    replace ht := ht.ext hb
    replace hB := ext_trans hB hb
    clear hb
    go_wp2
    go_ret
    exact ⟨rfl, hB⟩
  · have hb0 := nbits_bne hB0
    generalize nbits B = nb at hb0 ⊢
    go_wp2_with fail
    refine (bits_any _ _ _ zs _ (by omega) ht).mono ?_
    rintro e _ ⟨rfl, rfl⟩
    rw [← CN]
    by_cases hC0 : C = 0
    · have hc0 := nbits_beq hC0
      generalize nbits C = nc at hc0 ⊢
      clear hC0
      go_wp2_with fail
      refine (wakes_any _).mono ?_
      rintro e x11 ⟨rfl, hb⟩
      replace hr := hr.ext hb
      replace hs := hs.ext hb
      replace ht := ht.ext hb
      replace hB := ext_trans hB hb
      clear hb
      go_wp2
      go_ret
      exact ⟨rfl, hB⟩
    · have hc0 := nbits_bne hC0
      generalize nbits C = nc at hc0 ⊢
      go_wp2_with fail
      refine (divmod_any _ _ _ _ _ _ xs ys _ (by omega) (by omega) hr hs).mono ?_
      rintro e x11 ⟨qo, qn, qc, ra, rb, rd, rfl, hq, _, _, _, hb⟩
      replace hr := hr.ext hb
      replace hs := hs.ext hb
      replace ht := ht.ext hb
      replace hB := ext_trans hB hb
      clear hb
      rw [← BN, ← AN] at hq
      rw [← BN, divErr_pos hB0]
      have hqn : qn ≤ 12 := by have := len_lt hq (Nat.lt_of_le_of_lt (Nat.div_le_self A B) Al); omega
      go_wp2_with fail
      refine (divmod_any _ _ _ _ _ _ _ zs _ (by omega) (by omega) hq ht).mono ?_
      rintro e x12 ⟨uo, un, uc, ra2, rb2, rd2, rfl, hu, _, _, _, hb⟩
      replace hr := hr.ext hb
      replace hs := hs.ext hb
      replace ht := ht.ext hb
      replace hq := hq.ext hb
      replace hB := ext_trans hB hb
      clear hb
      clear hq
      rw [← CN, val_limbs, Nat.div_div_eq_div_mul] at hu
      rw [← CN, divErr_pos hC0]
      have hun : un ≤ 12 := by have := len_lt hu (Nat.lt_of_le_of_lt (Nat.div_le_self A (B * C)) Al); omega
      go_wp2_with fail
      refine (mul_any _ _ _ _ _ _ ys zs _ (by omega) (by omega) hs ht).mono ?_
      rintro e x13 ⟨po, pn, pc, rfl, hp, _, hb⟩
      replace hr := hr.ext hb
      replace hs := hs.ext hb
      replace ht := ht.ext hb
      replace hu := hu.ext hb
      replace hB := ext_trans hB hb
      clear hb
      rw [← BN, ← CN] at hp
      have hpn : pn ≤ 16 := by have := len_lt hp (prod_lt Bl Cl); omega
      have hbc : B * C ≠ 0 := Nat.mul_ne_zero hB0 hC0
      go_wp2_with fail
      refine (divmod_any _ _ _ _ _ _ xs _ _ (by omega) (by omega) hr hp).mono ?_
      rintro e x14 ⟨vo, vn, vc, ra3, rb3, rd3, rfl, hv, _, _, _, hb⟩
      replace hr := hr.ext hb
      replace hs := hs.ext hb
      replace ht := ht.ext hb
      replace hu := hu.ext hb
      replace hp := hp.ext hb
      replace hB := ext_trans hB hb
      clear hb
      clear hp
      rw [val_limbs, ← AN] at hv
      rw [val_limbs, divErr_pos hbc]
      have hvn : vn ≤ 12 := by have := len_lt hv (Nat.lt_of_le_of_lt (Nat.div_le_self A (B * C)) Al); omega
      go_wp2_with fail
      refine (cmp_any _ _ _ _ _ _ _ _ _ (by omega) (by omega) hu hv).mono ?_
      rintro e x15 ⟨rfl, hb⟩
      replace hr := hr.ext hb
      replace hs := hs.ext hb
      replace ht := ht.ext hb
      replace hu := hu.ext hb
      replace hv := hv.ext hb
      replace hB := ext_trans hB hb
      clear hb
      rw [cmpZ_same]
      go_wp2_with fail
      refine (wakes_any _).mono ?_
      rintro e x16 ⟨rfl, hb⟩
      replace hr := hr.ext hb
      replace hs := hs.ext hb
      replace ht := ht.ext hb
      replace hu := hu.ext hb
      replace hv := hv.ext hb
      replace hB := ext_trans hB hb
      clear hb
      go_wp2
      go_ret
      exact ⟨rfl, hB⟩

end Go.Proofs.Ytaecondhdfknfaa
