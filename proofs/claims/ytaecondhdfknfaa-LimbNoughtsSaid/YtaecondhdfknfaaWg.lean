/-
  THE WALK OF THE STATEMENT ON WHAT IS TAKEN BACK.
-/
import Derived.Test.YtaecondhdfknfaaWf
set_option linter.unusedVariables false
set_option linter.unusedSimpArgs false
namespace Go.Proofs.Ytaecondhdfknfaa
open Go.RowKit

theorem clampN_of {v : Int} {K : Nat} (h1 : 0 ≤ v) (h2 : v < (K : Int)) (hK : K ≤ 65536) : ∃ k : Nat, v = (k : Int) ∧ k < K ∧ clampN v = k := ⟨v.toNat, by omega, by omega, by unfold clampN; omega⟩

theorem shl_lt {a k K L : Nat} (ha : a < B32 ^ K) (hk : k < 32 * L) : a * 2 ^ k < B32 ^ (K + L) := by
  have h : 2 ^ k < B32 ^ L := two_pow_lt hk
  exact prod_lt ha h

theorem limbs_len_zero {w : World} {k c N : Nat} {ro : Option Addr} (h : Rw .u32 B32 w ro k c (limbs N)) : k = 0 ↔ N = 0 := by
  have h1 := h.len
  constructor
  · intro hk
    subst hk
    exact limbs_eq_nil.1 (List.length_eq_zero_iff.1 h1)
  · intro hN
    subst hN
    exact h1.symm

set_option maxHeartbeats 4000000 in
theorem limbBack_walk (ao bo co : Option Addr) (n c m d l f : Nat) (z : Int) (xs0 ys0 zs0 : List Nat) (w : World) (hn : n ≤ 9223372036854775807) (hm : m ≤ 9223372036854775807) (hl : l ≤ 9223372036854775807) (hz1 : -9223372036854775808 ≤ z) (hz2 : z ≤ 9223372036854775807) (hr0 : Rw .u32 B32 w ao n c xs0) (hs0 : Rw .u32 B32 w bo m d ys0) (ht0 : Rw .u32 B32 w co l f zs0) :
    Calls Try.prog 10 #[.slice ao n c, .slice bo m d, .slice co l f, .int .i64 z] w fun e w' => e = .returned (.bool true) ∧ Below w.heap.size w w' := by
  go_enter Try.func10, Try.ntmps10
  go_wp2_with fail
  refine (row_any _ _ _ 20 _ _ hn (by omega) hr0).mono ?_
  rintro e w0 ⟨n1, rfl, hn1, _, hr, rfl⟩
  go_wp2_with fail
  refine (row_any _ _ _ 20 _ _ hm (by omega) hs0).mono ?_
  rintro e w0 ⟨m1, rfl, hm1, _, hs, rfl⟩
  go_wp2_with fail
  refine (row_any _ _ _ 20 _ _ hl (by omega) ht0).mono ?_
  rintro e w0 ⟨l1, rfl, hl1, _, ht, rfl⟩
  obtain ⟨xs, hxs⟩ : ∃ xs, xs = xs0.take 20 := ⟨_, rfl⟩
  rw [← hxs] at hr
  clear hxs hr0
  obtain ⟨A, AN⟩ : ∃ N, N = val xs := ⟨_, rfl⟩
  have Al : A < B32 ^ 20 := by rw [AN]; exact row_lt hr hn1
  obtain ⟨ys, hxs⟩ : ∃ xs, xs = ys0.take 20 := ⟨_, rfl⟩
  rw [← hxs] at hs
  clear hxs hs0
  obtain ⟨B, BN⟩ : ∃ N, N = val ys := ⟨_, rfl⟩
  have Bl : B < B32 ^ 20 := by rw [BN]; exact row_lt hs hm1
  obtain ⟨zs, hxs⟩ : ∃ xs, xs = zs0.take 20 := ⟨_, rfl⟩
  rw [← hxs] at ht
  clear hxs ht0
  obtain ⟨C, CN⟩ : ∃ N, N = val zs := ⟨_, rfl⟩
  have Cl : C < B32 ^ 20 := by rw [CN]; exact row_lt ht hl1
  go_wp2_with fail
  refine (within_any z 300 _ (by omega) (by omega) hz1 hz2).mono ?_
  rintro e w0 ⟨rfl, rfl⟩
  obtain ⟨k, hk, hkb, hck⟩ := clampN_of (K := 300) (v := z % ((300 : Nat) : Int)) (by omega) (by omega) (by omega)
  rw [hk] at hck ⊢
  clear hk hz1 hz2
  have HCK := hid hck; clear hck
  go_wp2_with fail
  refine (add_any _ _ _ _ _ _ xs ys _ (by omega) (by omega) hr hs).mono ?_
  rintro e x1 ⟨ro, rk, rc, rfl, hsum, _, hb⟩
  replace hr := hr.ext hb
  replace hs := hs.ext hb
  replace ht := ht.ext hb
  have hB := hb
  clear hb
  rw [← AN, ← BN] at hsum
  have hrk : rk ≤ 41 := by have := len_lt hsum (sum_lt Al Bl); omega
  go_wp2_with fail
  refine (sub_any _ _ _ _ _ _ _ ys _ (by omega) (by omega) hsum hs).mono ?_
  rintro e x2 ⟨ro2, rk2, rc2, rfl, hdif, _, hb⟩
  replace hr := hr.ext hb
  replace hs := hs.ext hb
  replace ht := ht.ext hb
  replace hsum := hsum.ext hb
  replace hB := ext_trans hB hb
  clear hb
  rw [val_limbs, ← BN] at hdif ⊢
  rw [show A + B - B = A by omega] at hdif
  rw [decide_true (show B ≤ A + B by omega)]
  have hrk2 : rk2 ≤ 20 := by have := len_lt hdif Al; omega
  clear hsum
  go_wp2_with fail
  refine (cmp_any _ _ _ _ _ _ _ xs _ (by omega) (by omega) hdif hr).mono ?_
  rintro e x3 ⟨rfl, hb⟩
  replace hr := hr.ext hb
  replace hs := hs.ext hb
  replace ht := ht.ext hb
  replace hdif := hdif.ext hb
  replace hB := ext_trans hB hb
  clear hb
  rw [val_limbs, ← AN, cmpZ_same]
  clear hdif
  go_wp2_with fail
  refine (shl_any _ _ _ xs _ _ (by omega) hr).mono ?_
  rintro e x4 ⟨ro3, rk3, rc3, rfl, hsh, _, hb⟩
  replace hr := hr.ext hb
  replace hs := hs.ext hb
  replace ht := ht.ext hb
  replace hB := ext_trans hB hb
  clear hb
  rw [HCK.out, ← AN] at hsh
  have hrk3 : rk3 ≤ 30 := by have := len_lt hsh (shl_lt (L := 10) Al (by omega)); omega
  go_wp2_with fail
  refine (shr_any _ _ _ _ _ _ (by omega) hsh).mono ?_
  rintro e x5 ⟨ro4, rk4, rc4, rfl, hsr, _, hb⟩
  replace hr := hr.ext hb
  replace hs := hs.ext hb
  replace ht := ht.ext hb
  replace hsh := hsh.ext hb
  replace hB := ext_trans hB hb
  clear hb
  rw [HCK.out, val_limbs, Nat.mul_div_cancel _ (Nat.pow_pos (by decide))] at hsr
  have hrk4 : rk4 ≤ 20 := by have := len_lt hsr Al; omega
  clear hsh
  go_wp2_with fail
  refine (cmp_any _ _ _ _ _ _ _ xs _ (by omega) (by omega) hsr hr).mono ?_
  rintro e x6 ⟨rfl, hb⟩
  replace hr := hr.ext hb
  replace hs := hs.ext hb
  replace ht := ht.ext hb
  replace hsr := hsr.ext hb
  replace hB := ext_trans hB hb
  clear hb
  rw [val_limbs, ← AN, cmpZ_same]
  clear hsr
  go_wp2_with fail
  refine (mul_any _ _ _ _ _ _ xs ys _ (by omega) (by omega) hr hs).mono ?_
  rintro e x7 ⟨ro5, rk5, rc5, rfl, hab, _, hb⟩
  replace hr := hr.ext hb
  replace hs := hs.ext hb
  replace ht := ht.ext hb
  replace hB := ext_trans hB hb
  clear hb
  rw [← AN, ← BN] at hab
  have hrk5 : rk5 ≤ 40 := by have := len_lt hab (prod_lt Al Bl); omega
  go_wp2_with fail
  refine (mul_any _ _ _ _ _ _ ys xs _ (by omega) (by omega) hs hr).mono ?_
  rintro e x8 ⟨ro6, rk6, rc6, rfl, hba, _, hb⟩
  replace hr := hr.ext hb
  replace hs := hs.ext hb
  replace ht := ht.ext hb
  replace hab := hab.ext hb
  replace hB := ext_trans hB hb
  clear hb
  rw [← AN, ← BN, Nat.mul_comm] at hba
  have hrk6 : rk6 ≤ 40 := by have := len_lt hba (prod_lt Al Bl); omega
  go_wp2_with fail
  refine (cmp_any _ _ _ _ _ _ _ _ _ (by omega) (by omega) hab hba).mono ?_
  rintro e x9 ⟨rfl, hb⟩
  replace hr := hr.ext hb
  replace hs := hs.ext hb
  replace ht := ht.ext hb
  replace hab := hab.ext hb
  replace hba := hba.ext hb
  replace hB := ext_trans hB hb
  clear hb
  rw [cmpZ_same]
  clear hab hba
  go_wp2_with fail
  refine (norm_any _ _ _ ys _ (by omega) hs).mono ?_
  rintro e x10 ⟨ro7, rk7, rc7, rfl, _, hno, _, hb⟩
  replace hr := hr.ext hb
  replace hs := hs.ext hb
  replace ht := ht.ext hb
  replace hB := ext_trans hB hb
  clear hb
  rw [← BN] at hno
  have hno0 := limbs_len_zero hno
  by_cases hB0 : B = 0
  · have hrk7 : ((rk7 : Int) == 0) = true := by rw [hno0.2 hB0]; rfl
    clear hno0
    go_wp2_with fail
    refine (wakes_any _).mono ?_
    rintro e x11 ⟨rfl, hb⟩
    replace hr := hr.ext hb
    replace hs := hs.ext hb
    replace ht := ht.ext hb
    replace hno := hno.ext hb
    replace hB := ext_trans hB hb
    clear hb
    go_wp2
    go_ret
    exact ⟨rfl, hB⟩
  · have hrk7 : ((rk7 : Int) == 0) = false := by rw [beq_eq_false_iff_ne]; intro h; exact hB0 (hno0.1 (by omega))
    clear hno0
    clear hno
    go_wp2_with fail
    refine (divmod_any _ _ _ _ _ _ zs ys _ (by omega) (by omega) ht hs).mono ?_
    rintro e x11 ⟨qo, qn, qc, ro8, rk8, rc8, rfl, _, _, hrem, _, hb⟩
    replace hr := hr.ext hb
    replace hs := hs.ext hb
    replace ht := ht.ext hb
    replace hB := ext_trans hB hb
    clear hb
    rw [← BN, ← CN, modZ_pos _ hB0] at hrem
    rw [← BN, divErr_pos hB0]
    have hmod := Nat.mod_lt C (Nat.pos_of_ne_zero hB0)
    obtain ⟨R, hR⟩ : ∃ R, R = C % B := ⟨_, rfl⟩
    rw [← hR] at hrem hmod
    clear hR
    have hrk8 : rk8 ≤ 20 := by have := len_lt hrem (Nat.lt_trans hmod Bl); omega
    have HMOD := hid hmod; clear hmod
    go_wp2_with fail
    refine (mul_any _ _ _ _ _ _ xs ys _ (by omega) (by omega) hr hs).mono ?_
    rintro e x12 ⟨ro9, rk9, rc9, rfl, hab, _, hb⟩
    replace hr := hr.ext hb
    replace hs := hs.ext hb
    replace ht := ht.ext hb
    replace hrem := hrem.ext hb
    replace hB := ext_trans hB hb
    clear hb
    rw [← AN, ← BN] at hab
    have hrk9 : rk9 ≤ 40 := by have := len_lt hab (prod_lt Al Bl); omega
    go_wp2_with fail
    refine (add_any _ _ _ _ _ _ _ _ _ (by omega) (by omega) hab hrem).mono ?_
    rintro e x13 ⟨ro10, rk10, rc10, rfl, hsm, _, hb⟩
    replace hr := hr.ext hb
    replace hs := hs.ext hb
    replace ht := ht.ext hb
    replace hrem := hrem.ext hb
    replace hab := hab.ext hb
    replace hB := ext_trans hB hb
    clear hb
    rw [val_limbs, val_limbs] at hsm
    have hrk10 : rk10 ≤ 61 := by have := len_lt hsm (sum_lt (prod_lt Al Bl) (Nat.lt_trans HMOD.out Bl)); omega
    clear hab
    go_wp2_with fail
    refine (divmod_any _ _ _ _ _ _ _ ys _ (by omega) (by omega) hsm hs).mono ?_
    rintro e x14 ⟨qo2, qn2, qc2, ro11, rk11, rc11, rfl, hq2, _, hr2, _, hb⟩
    replace hr := hr.ext hb
    replace hs := hs.ext hb
    replace ht := ht.ext hb
    replace hrem := hrem.ext hb
    replace hsm := hsm.ext hb
    replace hB := ext_trans hB hb
    clear hb
    rw [← BN, modZ_pos _ hB0] at hr2
    rw [← BN] at hq2
    rw [← BN, divErr_pos hB0]
    have hdm := mod_is (show R + A * B = val (limbs (A * B + R)) by rw [val_limbs]; omega) HMOD.out
    rw [hdm.1] at hq2
    rw [hdm.2] at hr2
    clear hdm hsm
    have hqn2 : qn2 ≤ 20 := by have := len_lt hq2 Al; omega
    have hrk11 : rk11 ≤ 20 := by have := len_lt hr2 (Nat.lt_trans HMOD.out Bl); omega
    go_wp2_with fail
    refine (cmp_any _ _ _ _ _ _ _ xs _ (by omega) (by omega) hq2 hr).mono ?_
    rintro e x15 ⟨rfl, hb⟩
    replace hr := hr.ext hb
    replace hs := hs.ext hb
    replace ht := ht.ext hb
    replace hrem := hrem.ext hb
    replace hq2 := hq2.ext hb
    replace hr2 := hr2.ext hb
    replace hB := ext_trans hB hb
    clear hb
    rw [val_limbs, ← AN, cmpZ_same]
    go_wp2_with fail
    refine (cmp_any _ _ _ _ _ _ _ _ _ (by omega) (by omega) hr2 hrem).mono ?_
    rintro e x16 ⟨rfl, hb⟩
    replace hr := hr.ext hb
    replace hs := hs.ext hb
    replace ht := ht.ext hb
    replace hrem := hrem.ext hb
    replace hq2 := hq2.ext hb
    replace hr2 := hr2.ext hb
    replace hB := ext_trans hB hb
    clear hb
    rw [cmpZ_same]
    go_wp2_with fail
    refine (cmp_any _ _ _ _ _ _ _ ys _ (by omega) (by omega) hrem hs).mono ?_
    rintro e x17 ⟨rfl, hb⟩
    replace hr := hr.ext hb
    replace hs := hs.ext hb
    replace ht := ht.ext hb
    replace hrem := hrem.ext hb
    replace hq2 := hq2.ext hb
    replace hr2 := hr2.ext hb
    replace hB := ext_trans hB hb
    clear hb
    rw [val_limbs, ← BN]
    have hcs : cmpZ (R : Int) (B : Int) < 0 := cmpZ_lt.2 (Int.ofNat_lt.2 HMOD.out)
    generalize cmpZ (R : Int) (B : Int) = q4 at hcs ⊢
    go_wp2_with fail
    refine (wakes_any _).mono ?_
    rintro e x18 ⟨rfl, hb⟩
    replace hr := hr.ext hb
    replace hs := hs.ext hb
    replace ht := ht.ext hb
    replace hrem := hrem.ext hb
    replace hq2 := hq2.ext hb
    replace hr2 := hr2.ext hb
    replace hB := ext_trans hB hb
    clear hb
    go_wp2
    go_ret
    exact ⟨rfl, hB⟩

end Go.Proofs.Ytaecondhdfknfaa
