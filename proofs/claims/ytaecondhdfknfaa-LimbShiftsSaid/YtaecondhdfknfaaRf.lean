/-
  WALKS: the plain reckoning: BitsN.
-/
import Derived.Test.YtaecondhdfknfaaRd
import Derived.Test.YtaecondhdfknfaaLe
set_option linter.unusedVariables false
set_option linter.unusedSimpArgs false
namespace Go.Proofs.Ytaecondhdfknfaa
open Go.RowKit

theorem bit_and (y : Nat) (hy : y < 4294967296) : bits BinOp.and IntKind.u32 (y : Int) 1 = ((y % 2 : Nat) : Int) := by
  have h := (bits_nat .u32 32 (by decide) wraps_u32 y 1 hy (by decide)).1
  rw [Nat.and_one_is_mod] at h
  exact h

/-- The place of the greatest digit that is 1. -/
theorem bit_top {V i k a m : Nat} (hV : V < B32 ^ i) (ha : a < 2 ^ k) (hm : m = a + 2 ^ k * 1) : nbits (V + B32 ^ i * m) = 32 * i + k + 1 := by
  have hp : B32 ^ i = 2 ^ (32 * i) := by rw [Nat.pow_mul]
  have h1 : 2 ^ (32 * i + k) = B32 ^ i * 2 ^ k := by rw [hp, ← Nat.pow_add]
  have h2 : 2 ^ (32 * i + k + 1) = B32 ^ i * 2 ^ (k + 1) := by rw [hp, ← Nat.pow_add]; rfl
  refine nbits_unique (k := 32 * i + k) ?_ ?_
  · rw [h1]
    have := Nat.mul_le_mul_left (B32 ^ i) (show 2 ^ k ≤ m by omega)
    omega
  · rw [h2]
    have := Nat.mul_le_mul_left (B32 ^ i) (show m + 1 ≤ 2 ^ (k + 1) by rw [Nat.pow_succ]; omega)
    rw [Nat.mul_add, Nat.mul_one] at this
    omega

set_option maxHeartbeats 2000000 in
/-- BitsN: how many binary digits. -/
theorem bitsN_any (ao : Option Addr) (n c N : Nat) (w : World) (hn : n ≤ 1000000) (hr : Rw .i64 B4 w ao n c (digs4 N)) :
    Calls Try.prog 28 #[.slice ao n c] w fun e w' => e = .returned (.int .i64 (nbits N : Nat)) ∧ Below w.heap.size w w' := by
  have hlen := hr.len
  go_enter Try.func28, Try.ntmps28
  go_wp2_with fail
  refine (toN_any _ _ _ _ _ (by omega) hr).mono ?_
  rintro e w1 ⟨ro, l, rc, rfl, hs, hll, hb1⟩
  generalize hL : limbs N = ls at *
  have hNL : N = val ls := by rw [← hL, val_limbs]
  have hsl := hs.len
  have HN := hid hNL; have HSL := hid hsl
  clear hL hNL hsl hr hlen
  go_wp2_with fail
  go_loopw [3, 11] (fun s3 s11 wr => ∃ i : Nat, i ≤ l ∧ s11 = .int .i64 i ∧ s3 = .int .i64 (nbits (val (ls.take i)) : Nat) ∧ Below w1.heap.size w1 wr) (fun _ s11 _ => l - (intOf s11).toNat)
  case atStart => exact ⟨0, Nat.zero_le _, rfl, rfl, Below.refl _ _⟩
  case round =>
    obtain ⟨i, hi, rfl, rfl, hbe⟩ := hrel
    by_cases hil : i < l
    · obtain ⟨b1, off1, x, rfl, hx, hxB, hcx⟩ := hs.at hil
      have hx' : x < 4294967296 := hxB
      have Hx := hid hx; clear hx hxB hcx
      obtain ⟨nb, hnb⟩ : ∃ nb, nb = nbits (val (ls.take i)) := ⟨_, rfl⟩
      rw [← hnb]
      have HNB := hid hnb; clear hnb
      go_wp2_with fail
      obtain ⟨wo, rfl⟩ : ∃ wo : World, wo = wr := ⟨_, rfl⟩
      go_loopw [3, 6] (fun s3 s6 wr => ∃ k : Nat, k ≤ 32 ∧ s6 = .int .i64 k ∧ s3 = .int .i64 (nbits (val (ls.take i) + B32 ^ i * (x % 2 ^ k)) : Nat) ∧ Below w1.heap.size w1 wr) (fun _ s6 _ => 32 - (intOf s6).toNat)
      case atStart => exact ⟨0, Nat.zero_le _, rfl, by rw [HNB.out]; simp [Nat.mod_one], hbe⟩
      case round =>
        obtain ⟨k, hk, rfl, rfl, hbe⟩ := hrel
        obtain ⟨x2, hx2, _, hcx⟩ := (hs.ext hbe).cell hil
        obtain rfl : x = x2 := by have h := Hx.out; rw [hx2] at h; exact (Option.some.inj h).symm
        clear hx2
        obtain ⟨nb2, hnb⟩ : ∃ nb, nb = nbits (val (ls.take i) + B32 ^ i * (x % 2 ^ k)) := ⟨_, rfl⟩
        rw [← hnb]
        have HNB2 := hid hnb; clear hnb
        by_cases hk32 : k < 32
        · have hy : (x : Int) / 2 ^ k = ((x / 2 ^ k : Nat) : Int) := by rw [Int.natCast_ediv, Int.natCast_pow]; rfl
          have hyl : x / 2 ^ k < 4294967296 := Nat.lt_of_le_of_lt (Nat.div_le_self _ _) hx'
          have hand := bit_and (x / 2 ^ k) hyl
          have hmod := Nat.mod_pow_succ (x := x) (b := 2) (k := k)
          have hb2 : x / 2 ^ k % 2 < 2 := Nat.mod_lt _ (by decide)
          generalize x / 2 ^ k = y at hy hyl hand hmod hb2
          have HM := hid hmod; clear hmod
          generalize y % 2 = r at hand hb2 HM
          rw [← hy] at hand
          clear hy hyl
          by_cases hr1 : r = 1
          · subst hr1
            have hbb : ((1 : Nat) : Int) = 1 := rfl
            rw [hbb] at hand
            clear hbb
            go_wp2
            go_roundw
            case rel =>
              refine ⟨k + 1, by omega, by go_num, ?_, hbe⟩
              have hV := val_lt (xs := ls.take i) (fun z hz => hs.lt z (List.mem_of_mem_take hz))
              rw [List.length_take, HSL.out, Nat.min_eq_left (by omega)] at hV
              have e1 : nbits (val (ls.take i) + B32 ^ i * (x % 2 ^ (k + 1))) = 32 * i + k + 1 := bit_top hV (Nat.mod_lt _ (Nat.two_pow_pos k)) HM.out
              rw [e1]; go_num
            case measure => simp [intOf]; omega
          · obtain rfl : r = 0 := by omega
            have hbb : ((0 : Nat) : Int) = 0 := rfl
            rw [hbb] at hand
            clear hbb hr1
            go_wp2
            go_roundw
            case rel =>
              refine ⟨k + 1, by omega, by go_num, ?_, hbe⟩
              have e1 : x % 2 ^ (k + 1) = x % 2 ^ k := by rw [HM.out]; omega
              rw [HNB2.out, e1]
            case measure => simp [intOf]; omega
        · obtain rfl : k = 32 := by omega
          go_wp2
          go_roundw
          case rel =>
            refine ⟨i + 1, by omega, by go_num, ?_, hbe⟩
            have e2 : x % 2 ^ 32 = x := Nat.mod_eq_of_lt (by omega)
            have e3 : val (ls.take (i + 1)) = val (ls.take i) + B32 ^ i * x := valB_take_some _ Hx.out
            rw [HNB2.out, e2, e3]
          case measure => simp [intOf]; omega
    · obtain rfl : i = l := by omega
      have hfin : val (ls.take i) = N := by rw [List.take_of_length_le (by rw [HSL.out]; exact Nat.le_refl _), HN.out]
      rw [hfin]
      have hb := ext_trans hb1 hbe
      clear hfin
      go_wp2
      go_ret
      exact ⟨rfl, hb⟩

end Go.Proofs.Ytaecondhdfknfaa
