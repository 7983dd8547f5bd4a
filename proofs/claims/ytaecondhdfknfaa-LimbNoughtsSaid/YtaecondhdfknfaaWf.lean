/-
  THE WALKS OF THE STATEMENTS ON ORDERS, AND ON WHAT IS TAKEN BACK.
-/
import Derived.Test.YtaecondhdfknfaaWe
import Derived.Test.YtaecondhdfknfaaWd
set_option linter.unusedVariables false
set_option linter.unusedSimpArgs false
namespace Go.Proofs.Ytaecondhdfknfaa
open Go.RowKit

theorem cmpZ_bounds (a b : Int) : -1 ≤ cmpZ a b ∧ cmpZ a b ≤ 1 := by
  unfold cmpZ
  split
  · omega
  · split <;> omega
theorem cmpZ_neg (a b : Int) : cmpZ a b = - cmpZ b a := by
  unfold cmpZ
  by_cases h1 : a < b
  · rw [if_pos h1, if_neg (by omega), if_neg (by omega)]
  · by_cases h2 : a = b
    · rw [if_neg h1, if_pos h2, if_neg (by omega), if_pos h2.symm]; rfl
    · rw [if_neg h1, if_neg h2, if_pos (by omega)]; rfl
theorem cmpZ_lt {a b : Int} : cmpZ a b < 0 ↔ a < b := by
  unfold cmpZ
  split
  · omega
  · split <;> omega
theorem cmpZ_same (a : Int) : cmpZ a a = 0 := by unfold cmpZ; rw [if_neg (by omega), if_pos rfl]
theorem clampN_small {k : Nat} (h : k ≤ 65536) : clampN (k : Int) = k := by unfold clampN; omega
theorem len_lt {w : World} {k c N K : Nat} {ro : Option Addr} (h : Rw .u32 B32 w ro k c (limbs N)) (hN : N < B32 ^ K) : k ≤ K := by
  have := limbs_le hN
  rwa [h.len] at this
theorem pow_B32 (K : Nat) : B32 ^ K = 2 ^ (32 * K) := by rw [Nat.pow_mul]
theorem two_pow_lt {k K : Nat} (h : k < 32 * K) : 2 ^ k < B32 ^ K := by
  rw [pow_B32]; exact Nat.pow_lt_pow_right (by decide) h
theorem nbits_row {N K : Nat} (h : N < B32 ^ K) : nbits N ≤ 32 * K := nbits_le_of_lt (by rw [← pow_B32]; exact h)

set_option maxHeartbeats 4000000 in
theorem limbOrders_walk (ao bo co : Option Addr) (n c m d l f : Nat) (xs0 ys0 zs0 : List Nat) (w : World) (hn : n ≤ 9223372036854775807) (hm : m ≤ 9223372036854775807) (hl : l ≤ 9223372036854775807) (hr0 : Rw .u32 B32 w ao n c xs0) (hs0 : Rw .u32 B32 w bo m d ys0) (ht0 : Rw .u32 B32 w co l f zs0) :
    Calls Try.prog 9 #[.slice ao n c, .slice bo m d, .slice co l f] w fun e w' => e = .returned (.bool true) ∧ Below w.heap.size w w' := by
  go_enter Try.func9, Try.ntmps9
  go_wp2_with fail
  refine (row_any _ _ _ 16 _ _ hn (by omega) hr0).mono ?_
  rintro e w0 ⟨n1, rfl, hn1, _, hr, rfl⟩
  go_wp2_with fail
  refine (row_any _ _ _ 16 _ _ hm (by omega) hs0).mono ?_
  rintro e w0 ⟨m1, rfl, hm1, _, hs, rfl⟩
  go_wp2_with fail
  refine (row_any _ _ _ 16 _ _ hl (by omega) ht0).mono ?_
  rintro e w0 ⟨l1, rfl, hl1, _, ht, rfl⟩
  obtain ⟨xs, hxs⟩ : ∃ xs, xs = xs0.take 16 := ⟨_, rfl⟩
  rw [← hxs] at hr
  clear hxs hr0
  obtain ⟨A, AN⟩ : ∃ N, N = val xs := ⟨_, rfl⟩
  have Al : A < B32 ^ 16 := by rw [AN]; exact row_lt hr hn1
  obtain ⟨ys, hxs⟩ : ∃ xs, xs = ys0.take 16 := ⟨_, rfl⟩
  rw [← hxs] at hs
  clear hxs hs0
  obtain ⟨B, BN⟩ : ∃ N, N = val ys := ⟨_, rfl⟩
  have Bl : B < B32 ^ 16 := by rw [BN]; exact row_lt hs hm1
  obtain ⟨zs, hxs⟩ : ∃ xs, xs = zs0.take 16 := ⟨_, rfl⟩
  rw [← hxs] at ht
  clear hxs ht0
  obtain ⟨C, CN⟩ : ∃ N, N = val zs := ⟨_, rfl⟩
  have Cl : C < B32 ^ 16 := by rw [CN]; exact row_lt ht hl1
  go_wp2_with fail
  refine (cmp_any _ _ _ _ _ _ xs ys _ (by omega) (by omega) hr hs).mono ?_
  rintro e x1 ⟨rfl, hb⟩
  replace hr := hr.ext hb
  replace hs := hs.ext hb
  replace ht := ht.ext hb
  have hB := hb
  clear hb
  go_wp2_with fail
  refine (cmp_any _ _ _ _ _ _ ys zs _ (by omega) (by omega) hs ht).mono ?_
  rintro e x2 ⟨rfl, hb⟩
  replace hr := hr.ext hb
  replace hs := hs.ext hb
  replace ht := ht.ext hb
  replace hB := ext_trans hB hb
  clear hb
  go_wp2_with fail
  refine (cmp_any _ _ _ _ _ _ xs zs _ (by omega) (by omega) hr ht).mono ?_
  rintro e x3 ⟨rfl, hb⟩
  replace hr := hr.ext hb
  replace hs := hs.ext hb
  replace ht := ht.ext hb
  replace hB := ext_trans hB hb
  clear hb
  go_wp2_with fail
  refine (cmp_any _ _ _ _ _ _ ys xs _ (by omega) (by omega) hs hr).mono ?_
  rintro e x4 ⟨rfl, hb⟩
  replace hr := hr.ext hb
  replace hs := hs.ext hb
  replace ht := ht.ext hb
  replace hB := ext_trans hB hb
  clear hb
  rw [← AN, ← BN, ← CN]
  obtain ⟨hx1, hx2⟩ := cmpZ_bounds (B : Int) A
  have hxe := cmpZ_neg (A : Int) B
  have hxs2 := cmpZ_le (a := (A : Int)) (b := (B : Int))
  have hys2 := cmpZ_le (a := (B : Int)) (b := (C : Int))
  have hzs2 := cmpZ_le (a := (A : Int)) (b := (C : Int))
  rw [hxe] at hxs2 ⊢
  generalize cmpZ (B : Int) A = x' at hx1 hx2 hxs2 ⊢
  generalize cmpZ (B : Int) C = y at hys2 ⊢
  generalize cmpZ (A : Int) C = z at hzs2 ⊢
  have hz3 : -x' ≤ 0 → y ≤ 0 → ¬ 0 < z := by
    intro h1 h2 h3
    have h4 := hxs2.1 h1
    have h5 := hys2.1 h2
    have := hzs2.2 (by omega)
    omega
  have hbx := bne_same (-x')
  clear hxe hxs2 hys2 hzs2
  go_wp2_with fail
  all_goals
    refine (add_any _ _ _ _ _ _ xs ys _ (by omega) (by omega) hr hs).mono ?_
    rintro e x5 ⟨ro, rk, rc, rfl, hsum, _, hb⟩
    replace hr := hr.ext hb
    replace hs := hs.ext hb
    replace ht := ht.ext hb
    replace hB := ext_trans hB hb
    clear hb
    rw [← AN, ← BN] at hsum
    have hrk : rk ≤ 33 := by have := len_lt hsum (sum_lt Al Bl); omega
    go_wp2_with fail
    refine (cmp_any _ _ _ _ _ _ _ xs _ (by omega) (by omega) hsum hr).mono ?_
    rintro e x6 ⟨rfl, hb⟩
    replace hr := hr.ext hb
    replace hs := hs.ext hb
    replace ht := ht.ext hb
    replace hsum := hsum.ext hb
    replace hB := ext_trans hB hb
    clear hb
    rw [val_limbs, ← AN]
    have hcs : decide (cmpZ ((A + B : Nat) : Int) (A : Int) < 0) = false := by rw [decide_eq_false_iff_not, cmpZ_lt]; omega
    generalize cmpZ ((A + B : Nat) : Int) (A : Int) = q at hcs ⊢
    have hcs2 : 0 ≤ q := by have := of_decide_eq_false hcs; omega
    clear hcs hsum
    go_wp2_with fail
    refine (bits_any _ _ _ xs _ (by omega) hr).mono ?_
    rintro e _ ⟨rfl, rfl⟩
    rw [← AN]
    have hkb := nbits_row Al
    have hk1 := nbits_lt A
    have hk2 : nbits A ≠ 0 → 2 ^ (nbits A - 1) ≤ A := fun h => nbits_le (fun h0 => h (by rw [h0]; rfl))
    generalize nbits A = k at hkb hk1 hk2 ⊢
    have HK1 := hid hk1; have HK2 := hid hk2; clear hk1 hk2
    go_wp2_with fail
    have hone := lit_rw x6 1 (by decide) 38
    have hba := alloc_ext x6 (.cells #[.int .u32 1] 38)
    replace hr := hr.ext hba
    replace hs := hs.ext hba
    replace ht := ht.ext hba
    replace hB := ext_trans hB hba
    clear hba
    generalize x6.alloc (.cells #[.int .u32 1] 38) = xa at *
    generalize x6.heap.size = g at *
    refine (shl_any _ _ _ [1] _ _ (by omega) hone).mono ?_
    rintro e x8 ⟨ro2, rk2, rc2, rfl, hsh, _, hb⟩
    replace hr := hr.ext hb
    replace hs := hs.ext hb
    replace ht := ht.ext hb
    replace hone := hone.ext hb
    replace hB := ext_trans hB hb
    clear hb
    rw [clampN_small (by omega), val_one, Nat.one_mul] at hsh
    have hrk2 : rk2 ≤ 17 := by have := len_lt hsh (two_pow_lt (K := 17) (by omega)); omega
    go_wp2_with fail
    refine (cmp_any _ _ _ _ _ _ xs _ _ (by omega) (by omega) hr hsh).mono ?_
    rintro e x9 ⟨rfl, hb⟩
    replace hr := hr.ext hb
    replace hs := hs.ext hb
    replace ht := ht.ext hb
    replace hone := hone.ext hb
    replace hsh := hsh.ext hb
    replace hB := ext_trans hB hb
    clear hb
    rw [val_limbs, ← AN]
    have hcs : cmpZ (A : Int) ((2 ^ k : Nat) : Int) < 0 := cmpZ_lt.2 (Int.ofNat_lt.2 HK1.out)
    generalize cmpZ (A : Int) ((2 ^ k : Nat) : Int) = q2 at hcs ⊢
    clear hsh
    by_cases hk0 : k = 0
    · subst hk0
      go_wp2_with fail
      refine (wakes_any _).mono ?_
      rintro e x10 ⟨rfl, hb⟩
      replace hr := hr.ext hb
      replace hs := hs.ext hb
      replace ht := ht.ext hb
      replace hone := hone.ext hb
      replace hB := ext_trans hB hb
      clear hb
      go_wp2
      go_ret
      exact ⟨rfl, hB⟩
    · have hkk : ((k : Int) - 1) = ((k - 1 : Nat) : Int) := by omega
      have hkd : ((k : Int) == 0) = false := by rw [beq_eq_false_iff_ne]; omega
      go_wp2_with fail
      refine (shl_any _ _ _ [1] _ _ (by omega) hone).mono ?_
      rintro e x10 ⟨ro3, rk3, rc3, rfl, hsh, _, hb⟩
      replace hr := hr.ext hb
      replace hs := hs.ext hb
      replace ht := ht.ext hb
      replace hone := hone.ext hb
      replace hB := ext_trans hB hb
      clear hb
      first | rw [hkk, clampN_small (by omega), val_one, Nat.one_mul] at hsh | rw [clampN_small (by omega), val_one, Nat.one_mul] at hsh
      have hrk3 : rk3 ≤ 17 := by have := len_lt hsh (two_pow_lt (K := 17) (by omega)); omega
      go_wp2_with fail
      refine (cmp_any _ _ _ _ _ _ xs _ _ (by omega) (by omega) hr hsh).mono ?_
      rintro e x11 ⟨rfl, hb⟩
      replace hr := hr.ext hb
      replace hs := hs.ext hb
      replace ht := ht.ext hb
      replace hone := hone.ext hb
      replace hsh := hsh.ext hb
      replace hB := ext_trans hB hb
      clear hb
      rw [val_limbs, ← AN]
      have hcs4 : 0 ≤ cmpZ (A : Int) ((2 ^ (k - 1) : Nat) : Int) := cmpZ_ge.2 (Int.ofNat_le.2 (HK2.out hk0))
      generalize cmpZ (A : Int) ((2 ^ (k - 1) : Nat) : Int) = q3 at hcs4 ⊢
      clear hsh
      go_wp2_with fail
      refine (wakes_any _).mono ?_
      rintro e x12 ⟨rfl, hb⟩
      replace hr := hr.ext hb
      replace hs := hs.ext hb
      replace ht := ht.ext hb
      replace hone := hone.ext hb
      replace hB := ext_trans hB hb
      clear hb
      go_wp2
      go_ret
      exact ⟨rfl, hB⟩

end Go.Proofs.Ytaecondhdfknfaa
