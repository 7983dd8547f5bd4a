/-
  WALKS: limb.cut, limb.Norm, limb.Cmp: what they return, as numbers; nothing that was there turns. Conditions: the lengths are no more than memory bears.
-/
import Derived.Test.YtkcagkcphobmfaaRows
import Derived.Test.YtkcagkcphobmfaaMem
import Derived.BigQuiet
import Derived.Deep.QuietTactic
set_option linter.unusedVariables false
set_option linter.unusedSimpArgs false
namespace Go.Proofs.Ytkcagkcphobmfaa
open Go.RowKit

theorem Try.infoU32 : (Try.prog.info? 68).map (fun i => (i.zero, i.size, i.bytes)) = some (some (.int .u32 0), 1, 4) := by kernel_rfl
theorem Try.sizeU32 : (Try.prog.info? 68).map (·.size) = some 1 := by kernel_rfl

set_option maxHeartbeats 400000 in
theorem cut_walk (ao : Option Addr) (n c : Nat) (xs : List Nat) (w : World) (hm : n ≤ 9223372036854775807) (hr : Rw .u32 B32 w ao n c xs) :
    Calls Try.prog 75 #[.slice ao n c] w fun e w' => e = .returned (.slice ao (cutN xs n) c) ∧ w' = w := by
  have hlc := hr.le
  go_enter Try.func75, Try.ntmps75
  go_wp2
  go_loop [3] (fun n' => ∃ k : Nat, k ≤ n ∧ n' = .int .i64 k ∧ cutN xs k = cutN xs n) (fun n' => (intOf n').toNat)
  case atStart => exact ⟨n, Nat.le_refl _, rfl, rfl⟩
  case round =>
    obtain ⟨k, hk, rfl, hcut⟩ := hrel
    have Hcut := hid hcut; clear hcut
    by_cases h0 : k = 0
    · subst h0
      go_wp2
      go_ret
      exact ⟨by rw [← Hcut]; rfl, rfl⟩
    · obtain ⟨j, rfl⟩ : ∃ j, k = j + 1 := ⟨k - 1, by omega⟩
      obtain ⟨b, off, x, rfl, hx, hxB, hcj⟩ := hr.at (show j < n by omega)
      have Hx := hid hx; clear hx hr
      by_cases hz : x = 0
      · subst hz
        go_wp2
        go_round
        case rel => exact ⟨j, by omega, rfl, by rw [← Hcut]; simp [cutN, Hx.out]⟩
        case measure => simp [intOf]
      · have hz' : ((x : Int) == 0) = false := by simpa using hz
        go_wp2
        go_ret
        exact ⟨by rw [← Hcut]; simp [cutN, Hx.out, hz], rfl⟩

/-- cut: the same memory, as far as the row of the number goes. -/
theorem cut_any (ao : Option Addr) (n c : Nat) (xs : List Nat) (w : World) (hm : n ≤ 9223372036854775807) (hr : Rw .u32 B32 w ao n c xs) :
    Calls Try.prog 75 #[.slice ao n c] w fun e w' => ∃ m, e = .returned (.slice ao m c) ∧ m ≤ n ∧ Rw .u32 B32 w ao m c (limbs (val xs)) ∧ w = w' := by
  refine (cut_walk ao n c xs w hm hr).mono fun e w' ⟨he, hw⟩ => ?_
  have hcut := cut_limbs xs hr.lt
  have hr2 := hr.take (cutN_le xs n)
  have hl := hr.len
  subst hl
  rw [hcut] at hr2
  exact ⟨_, he, cutN_le _ _, hr2, hw.symm⟩

set_option maxHeartbeats 400000 in
/-- Norm: the row of the number, in memory of its own. -/
theorem norm_any (ao : Option Addr) (n c : Nat) (xs : List Nat) (w : World) (hm : n ≤ 1073741824) (hr : Rw .u32 B32 w ao n c xs) :
    Calls Try.prog 63 #[.slice ao n c] w fun e w' => ∃ ao' m c', e = .returned (.slice ao' m c') ∧ m ≤ n ∧ Rw .u32 B32 w' ao' m c' (limbs (val xs)) ∧ Own w.heap.size w' ao' c' ∧ Below w.heap.size w w' := by
  go_enter Try.func63, Try.ntmps63
  go_wp2_with fail
  refine (cut_any ao n c xs _ (by omega) hr).mono ?_
  rintro e w' ⟨m, rfl, hmn, hr2, rfl⟩
  have hl2 := hr2.len
  go_wp2_with (at_builtin; refine Hid.out ?_)
  refine hid ?_
  refine wpList_app _ rfl _ _ 22 rfl w.heap.size 68 (.int .u32 0) 1 4 Try.underlying22 Try.infoU32 rfl (by decide) (.slice none 0 0) 0 [] rfl (World.ownsRow_nil _ _ _ _) ao m c (ints .u32 (limbs (val xs))) rfl (by rw [ints_length]; omega) hr2.2.2.1 hr2.le hr2.cells (ints_one _ _) (by unfold maxLen; omega) (by omega) (Nat.le_refl _) fun v' w1 hown _ hb => ?_
  rw [Nat.zero_add, List.nil_append] at hown
  obtain ⟨ao', c', rfl, h1, h2⟩ := own_of_ownsRow (k := .u32) (B := B32) (by rw [hl2]; exact hown) hr2.lt
  rw [hl2] at h1
  go_wp2
  go_ret
  exact ⟨_, _, _, rfl, hmn, h1, h2, hb⟩

/-- -1, 0, 1: which one is greater. -/
def cmpZ (a b : Int) : Int := if a < b then -1 else if a = b then 0 else 1

theorem cmp_digit {B : Nat} {xs ys : List Nat} (hx : ∀ x ∈ xs, x < B) (hl : xs.length = ys.length) {k : Nat} (hk : k < xs.length) (hd : xs.drop (k + 1) = ys.drop (k + 1))
    (hlt : xs[k] < ys[k]'(by omega)) : valB B xs < valB B ys := by
  rw [valB_drop B xs (k + 1) (by omega), valB_drop B ys (k + 1) (by omega), hd, valB_take_succ B xs k hk, valB_take_succ B ys k (by omega)]
  have h1 : valB B (xs.take k) < B ^ k := by
    have := valB_lt (xs := xs.take k) (fun x h => hx x (List.mem_of_mem_take h))
    rwa [List.length_take, Nat.min_eq_left (by omega)] at this
  have h2 : B ^ k * (xs[k] + 1) ≤ B ^ k * (ys[k]'(by omega)) := Nat.mul_le_mul_left _ hlt
  rw [Nat.mul_add] at h2
  omega

set_option maxHeartbeats 1000000 in
/-- Cmp: -1, 0, 1, as the numbers are. -/
theorem cmp_any (ao bo : Option Addr) (n c m d : Nat) (xs ys : List Nat) (w : World) (hn : n ≤ 1073741824) (hm : m ≤ 1073741824) (hr : Rw .u32 B32 w ao n c xs) (hs : Rw .u32 B32 w bo m d ys) :
    Calls Try.prog 72 #[.slice ao n c, .slice bo m d] w fun e w' => e = .returned (.int .i64 (cmpZ (val xs) (val ys))) ∧ Below w.heap.size w w' := by
  go_enter Try.func72, Try.ntmps72
  go_wp2_with fail
  refine (cut_any ao n c xs _ (by omega) hr).mono ?_
  rintro e w' ⟨n1, rfl, hn1, hr1, rfl⟩
  go_wp2_with fail
  refine (cut_any bo m d ys _ (by omega) hs).mono ?_
  rintro e w' ⟨m1, rfl, hm1, hs1, rfl⟩
  have hl1 := hr1.len
  have hl2 := hs1.len
  generalize hA : limbs (val xs) = A at *
  generalize hB : limbs (val ys) = B at *
  have HA := hid hA; have HB := hid hB; have HL1 := hid hl1; have HL2 := hid hl2
  clear hA hB hl1 hl2
  have hvx : val xs = val A := by rw [← HA.out, val_limbs]
  have hvy : val ys = val B := by rw [← HB.out, val_limbs]
  have HVX := hid hvx; have HVY := hid hvy; clear hvx hvy hr hs
  by_cases hne : n1 = m1
  · subst hne
    go_wp2_with fail
    go_loopw [5] (fun i wr => ∃ k : Nat, k ≤ n1 ∧ i = .int .i64 ((k : Int) - 1) ∧ A.drop k = B.drop k ∧ Below w.heap.size w wr) (fun i _ => (intOf i + 1).toNat)
    case atStart => exact ⟨n1, Nat.le_refl _, rfl, by rw [List.drop_of_length_le (Nat.le_of_eq HL1.out), List.drop_of_length_le (Nat.le_of_eq HL2.out)], Below.refl _ _⟩
    case round =>
      obtain ⟨k, hk, rfl, hd, hb⟩ := hrel
      have Hd := hid hd; clear hd
      by_cases h0 : k = 0
      · subst h0
        go_wp2
        go_ret
        exact ⟨ret_int (by have := Hd.out; simp only [List.drop_zero] at this; rw [HVX.out, HVY.out, this]; simp [cmpZ]), hb⟩
      · obtain ⟨j, rfl⟩ : ∃ j, k = j + 1 := ⟨k - 1, by omega⟩
        obtain ⟨b1, off1, x, rfl, hx, hxB, hcx⟩ := (hr1.ext hb).at (show j < n1 by omega)
        obtain ⟨b2, off2, y, rfl, hy, hyB, hcy⟩ := (hs1.ext hb).at (show j < n1 by omega)
        have Hx := hid hx; have Hy := hid hy; clear hx hy
        by_cases hxy : x < y
        · go_wp2
          go_quiet (fail)
          go_wp2
          go_ret
          refine ⟨ret_int ?_, ext_drewN hb _⟩
          have hA : A.length = B.length := by rw [HL1.out, HL2.out]
          have := cmp_digit (B := B32) hr1.lt hA (k := j) (by rw [HL1.out]; omega) Hd.out (by
            obtain ⟨_, e1⟩ := List.getElem?_eq_some_iff.1 Hx.out
            obtain ⟨_, e2⟩ := List.getElem?_eq_some_iff.1 Hy.out
            rw [e1, e2]; exact hxy)
          rw [HVX.out, HVY.out]; unfold val; rw [cmpZ, if_pos (by omega)]
        · by_cases hyx : y < x
          · have e1 : decide (x < y) = false := by simpa using hxy
            go_wp2
            go_quiet (fail)
            go_wp2
            go_quiet (fail)
            go_wp2
            go_ret
            refine ⟨ret_int ?_, ext_drewN (ext_drewN hb _) _⟩
            have hA : B.length = A.length := by rw [HL1.out, HL2.out]
            have := cmp_digit (B := B32) hs1.lt hA (k := j) (by rw [HL2.out]; omega) Hd.out.symm (by
              obtain ⟨_, e1⟩ := List.getElem?_eq_some_iff.1 Hx.out
              obtain ⟨_, e2⟩ := List.getElem?_eq_some_iff.1 Hy.out
              rw [e1, e2]; exact hyx)
            rw [HVX.out, HVY.out]; unfold val; rw [cmpZ, if_neg (by omega), if_neg (by omega)]
          · have e1 : decide (x < y) = false := by simpa using hxy
            have e2 : decide (y < x) = false := by simpa using hyx
            obtain rfl : x = y := by omega
            go_wp2
            go_quiet (fail)
            go_wp2
            go_quiet (fail)
            go_wp2
            go_roundw
            case rel =>
              refine ⟨j, by omega, by go_num, ?_, ext_drewN hb _⟩
              obtain ⟨h1, e1⟩ := List.getElem?_eq_some_iff.1 Hx.out
              obtain ⟨h2, e2⟩ := List.getElem?_eq_some_iff.1 Hy.out
              rw [List.drop_eq_getElem_cons h1, List.drop_eq_getElem_cons h2, e1, e2, Hd.out]
            case measure => simp [intOf]
  · by_cases hlt : n1 < m1
    · go_wp2
      go_ret
      exact ⟨ret_int (by have := limbs_shorter (m := val xs) (n := val ys) (by rw [HA.out, HB.out, HL1.out, HL2.out]; exact hlt); rw [cmpZ, if_pos (by omega)]), Below.refl _ _⟩
    · go_wp2
      go_ret
      exact ⟨ret_int (by have := limbs_shorter (m := val ys) (n := val xs) (by rw [HA.out, HB.out, HL1.out, HL2.out]; omega); rw [cmpZ, if_neg (by omega), if_neg (by omega)]), Below.refl _ _⟩

end Go.Proofs.Ytkcagkcphobmfaa
