/-
  WALKS: whole.Small.
-/
import Derived.Test.YtkcagkcphobmfaaZo
set_option linter.unusedVariables false
set_option linter.unusedSimpArgs false
namespace Go.Proofs.Ytkcagkcphobmfaa
open Go.RowKit

theorem or_join_i64 (r x : Nat) (hr : r < 1073741824) (hx : x < 4294967296) : bits BinOp.or IntKind.i64 ((r : Int) * 4294967296) (x : Int) = ((r * 4294967296 + x : Nat) : Int) := by
  have h := (bits_nat .i64 62 (by decide) (fun n h0 h1 => IntWalk.i64_in _ (by omega)) (r * 4294967296) x (by omega) (by omega)).2
  have h2 := Nat.two_pow_add_eq_or_of_lt (i := 32) (show x < 2 ^ 32 from hx) r
  rw [Nat.mul_comm, show (2 : Nat) ^ 32 = 4294967296 from rfl] at h2
  rw [h2, ← h]
  simp

theorem nbits_small {M : Nat} (h : M < 2 ^ 62) : nbits M ≤ 62 := nbits_le_of_lt h
theorem nbits_great {M : Nat} (h : ¬ M < 2 ^ 62) : 62 < nbits M := by
  apply Classical.byContradiction
  intro hn
  have h1 := nbits_lt M
  have h2 : 2 ^ nbits M ≤ 2 ^ 62 := Nat.pow_le_pow_right (by decide) (by omega)
  omega

theorem one_le_B32 (j : Nat) : 1 ≤ B32 ^ j := Nat.pow_pos (by decide)

theorem val_drop_le (xs : List Nat) (j : Nat) (h : j ≤ xs.length) : val (xs.drop j) ≤ val xs := by
  have h1 := valB_drop B32 xs j h
  have h2 : 1 ≤ B32 ^ j := one_le_B32 j
  have h3 := Nat.mul_le_mul_right (valB B32 (xs.drop j)) h2
  unfold val
  omega

theorem zv_small2 (z : Int) (s : Bool) (hs : z ≠ 0 → s = decide (z < 0)) : z = zv s z.natAbs := zv_abs_sign z s hs

set_option maxHeartbeats 4000000 in
theorem wSmallNot {K : Nat} {w : World} {s : Bool} {ao : Option Addr} {n c : Nat} {z : Int} (h : Za K w s ao n c z) (hz : ¬ z.natAbs < 2 ^ 62) (hK : K ≤ 1073741824 := by omega) : Calls Try.prog 27 #[.agg #[.bool s, .slice ao n c]] w (RetV (.tuple #[.int .i64 0, .bool false]) w) := by
  obtain ⟨bv, hb0⟩ : ∃ bv : Int, ((nbits z.natAbs : Nat) : Int) = bv := ⟨_, rfl⟩
  have hbd : decide (62 < bv) = true := by rw [decide_eq_true_eq, ← hb0]; have := nbits_great hz; omega
  have HB := hid hb0; clear hb0 hz
  go_enter Try.func27, Try.ntmps27
  have hB := Below.refl w.heap.size w
  go_wp2_with fail
  obtain ⟨w1, g2, hw3, hg4, hb5, al6, ge7, sz8⟩ := mk_alloc w [(.bool s), (.slice ao n c)] 24 (N := w.heap.size) rfl
  rw [← hw3]
  have G9 := below_ge hB ge7
  replace hB := ext_trans hB al6
  replace h := h.ext al6
  clear hw3 al6 ge7
  rw [← hg4]
  clear hg4 sz8
  refine (lNorm h.la).mono ?_
  rintro e w11 ⟨o10, n10, c10, rfl, h10, _, hb12⟩
  replace h := h.ext hb12
  replace hb5 := hb5.ext hb12
  replace hB := ext_trans hB hb12
  clear hb12
  go_wp2_with fail
  refine (lBits (v := bv) h10.la (HB.out)).mono ?_
  rintro e _ ⟨rfl, rfl⟩
  go_wp2
  go_ret2
  exact ⟨rfl, hB⟩

set_option maxHeartbeats 8000000 in
theorem wSmall {K : Nat} {w : World} {s : Bool} {ao : Option Addr} {n c : Nat} {z : Int} (h : Za K w s ao n c z) (hz : z.natAbs < 2 ^ 62) (hK : K ≤ 1073741824 := by omega) : Calls Try.prog 27 #[.agg #[.bool s, .slice ao n c]] w (RetV (.tuple #[.int .i64 z, .bool true]) w) := by
  obtain ⟨bv, hb0⟩ : ∃ bv : Int, ((nbits z.natAbs : Nat) : Int) = bv := ⟨_, rfl⟩
  have hbd : decide (62 < bv) = false := by rw [decide_eq_false_iff_not, ← hb0]; have := nbits_small hz; omega
  have HB := hid hb0; clear hb0
  have HS : Hid (z ≠ 0 → s = decide (z < 0)) := hid h.neg
  have hM : z.natAbs < 4611686018427387904 := hz
  clear hz
  go_enter Try.func27, Try.ntmps27
  have hB := Below.refl w.heap.size w
  go_wp2_with fail
  obtain ⟨w1, g2, hw3, hg4, hb5, al6, ge7, sz8⟩ := mk_alloc w [(.bool s), (.slice ao n c)] 24 (N := w.heap.size) rfl
  rw [← hw3]
  have G9 := below_ge hB ge7
  replace hB := ext_trans hB al6
  replace h := h.ext al6
  clear hw3 al6 ge7
  rw [← hg4]
  clear hg4 sz8
  refine (lNorm h.la).mono ?_
  rintro e w11 ⟨o10, n10, c10, rfl, h10, _, hb12⟩
  replace h := h.ext hb12
  replace hb5 := hb5.ext hb12
  replace hB := ext_trans hB hb12
  clear hb12
  have hlen := h10.2.len
  have HLEN := hid hlen; clear hlen
  obtain ⟨M, hMz⟩ : ∃ M, M = z.natAbs := ⟨_, rfl⟩
  rw [← hMz] at h10 HB hM HLEN
  have HM := hid hMz; clear hMz
  have hkK := h10.le
  go_wp2_with fail
  refine (lBits (v := bv) h10.la (HB.out)).mono ?_
  rintro e _ ⟨rfl, rfl⟩
  go_wp2_with fail
  go_loop [5, 6] (fun s5 s6 => ∃ j : Nat, j ≤ n10 ∧ s6 = .int .i64 ((j : Int) - 1) ∧ s5 = .int .i64 ((val ((limbs M).drop j) : Nat) : Int)) (fun _ s6 => (intOf s6 + 1).toNat)
  case atStart => exact ⟨n10, Nat.le_refl _, rfl, by rw [List.drop_of_length_le (Nat.le_of_eq HLEN.out)]; rfl⟩
  case round =>
    obtain ⟨j, hj, rfl, rfl⟩ := hrel
    by_cases h0 : j = 0
    · subst h0
      have hv : val ((limbs M).drop 0) = M := by rw [List.drop_zero]; exact val_limbs M
      rw [hv]
      clear hv
      obtain ⟨a15, a16, f17, f18⟩ := cells2 hb5
      have l19 := hb5.lt
      cases s
      · skip
        go_wp2
        go_ret2
        exact ⟨by have h1 := zv_small2 z _ HS.out; rw [← HM.out] at h1; rw [h1]; rfl, hB⟩
      · skip
        go_wp2
        go_ret2
        exact ⟨by have h1 := zv_small2 z _ HS.out; rw [← HM.out] at h1; rw [h1]; rfl, hB⟩
    · obtain ⟨i, rfl⟩ : ∃ i, j = i + 1 := ⟨j - 1, by omega⟩
      obtain ⟨b1, off1, x, rfl, hx, hxB, hcx⟩ := h10.2.at (show i < n10 by omega)
      have hx' : x < 4294967296 := hxB
      have hdr := valB_drop_some B32 hx
      have hle := val_drop_le (limbs M) i (by have := HLEN.out; omega)
      rw [val_limbs] at hle
      obtain ⟨r, hr⟩ : ∃ r, r = val ((limbs M).drop (i + 1)) := ⟨_, rfl⟩
      have hdr2 : val ((limbs M).drop i) = r * 4294967296 + x := by rw [hr]; unfold val; rw [hdr]; unfold B32; omega
      have hr2 : r < 1073741824 := by omega
      rw [← hr]
      have hor := or_join_i64 r x hr2 hx'
      have HD := hid hdr2
      clear hdr hdr2 hle hx hxB hr
      go_wp2
      go_round
      case rel => exact ⟨i, by omega, by go_num, by rw [HD.out]; simp⟩
      case measure => simp [intOf]

end Go.Proofs.Ytkcagkcphobmfaa
