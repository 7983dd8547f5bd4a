/-
  Copy and Same of rows of limbs.
-/
import Derived.Test.YtkcagkcphobmfaaLa
import Derived.Deep.DeepCutAuto
set_option linter.unusedVariables false
set_option linter.unusedSimpArgs false
namespace Go.Proofs.Ytkcagkcphobmfaa
open Go.RowKit

/-- Copy: a row in new memory. -/
theorem copy_any (ao : Option Addr) (n c : Nat) (xs : List Nat) (w : World) (hn : n ≤ 1073741824) (hr : Rw .u32 B32 w ao n c xs) :
    Calls Try.prog 50 #[.slice ao n c] w fun e w' => ∃ ao' c', e = .returned (.slice ao' n c') ∧ Rw .u32 B32 w' ao' n c' xs ∧ Own w.heap.size w' ao' c' ∧ Below w.heap.size w w' := by
  have hl := hr.len
  have HL := hid hl; clear hl
  go_enter Try.func50, Try.ntmps50
  go_wp2_with (at_builtin; refine Hid.out ?_)
  refine hid ?_
  refine wpList_app _ rfl _ _ 22 rfl w.heap.size 68 (.int .u32 0) 1 4 Try.underlying22 Try.infoU32 rfl (by decide) (.slice none 0 0) 0 [] rfl (World.ownsRow_nil _ _ _ _) ao n c (ints .u32 xs) rfl (by rw [ints_length, HL.out]; omega) hr.2.2.1 hr.le hr.cells (ints_one _ _) (by unfold maxLen; omega) (by omega) (Nat.le_refl _) fun v' w1 hown _ hb => ?_
  rw [Nat.zero_add, List.nil_append] at hown
  obtain ⟨ao', c', rfl, h1, h2⟩ := own_of_ownsRow (k := .u32) (B := B32) (by rw [HL.out]; exact hown) hr.lt
  rw [HL.out] at h1 ⊢
  go_wp2
  go_ret
  exact ⟨_, _, rfl, h1, h2, hb⟩

set_option maxHeartbeats 1000000 in
/-- Same: are two rows one? -/
theorem same_any (ao bo : Option Addr) (n c m d : Nat) (xs ys : List Nat) (w : World) (hn : n ≤ 1073741824) (hm : m ≤ 1073741824) (hr : Rw .u32 B32 w ao n c xs) (hs : Rw .u32 B32 w bo m d ys) :
    Calls Try.prog 67 #[.slice ao n c, .slice bo m d] w fun e w' => e = .returned (.bool (decide (xs = ys))) ∧ Below w.heap.size w w' := by
  have hl1 := hr.len
  have hl2 := hs.len
  have HL1 := hid hl1; have HL2 := hid hl2; clear hl1 hl2
  by_cases hne : n = m
  · subst hne
    go_enter Try.func67, Try.ntmps67
    go_wp2_with fail
    go_loopw [5] (fun s5 wr => ∃ k : Nat, k ≤ n ∧ s5 = .int .i64 k ∧ xs.take k = ys.take k ∧ Below w.heap.size w wr) (fun s5 _ => n - (intOf s5).toNat)
    case atStart => exact ⟨0, Nat.zero_le _, rfl, rfl, Below.refl _ _⟩
    case round =>
      obtain ⟨k, hk, rfl, ht, hb⟩ := hrel
      have HT := hid ht; clear ht
      by_cases hkn : k < n
      · obtain ⟨b1, off1, x, rfl, hx, hxB, hcx⟩ := (hr.ext hb).at hkn
        obtain ⟨b2, off2, y, rfl, hy, hyB, hcy⟩ := (hs.ext hb).at hkn
        have HX := hid hx; have HY := hid hy; clear hx hy hxB hyB
        by_cases hxy : x = y
        · subst hxy
          go_wp2
          go_quiet (fail)
          go_wp2
          go_roundw
          case rel =>
            refine ⟨k + 1, by omega, by go_num, ?_, ext_drewN hb _⟩
            obtain ⟨h1, e1⟩ := List.getElem?_eq_some_iff.1 HX.out
            obtain ⟨h2, e2⟩ := List.getElem?_eq_some_iff.1 HY.out
            rw [List.take_succ_eq_append_getElem h1, List.take_succ_eq_append_getElem h2, HT.out, e1, e2]
          case measure => simp [intOf]; omega
        · have e1 : ((x : Int) != (y : Int)) = true := by rw [bne_iff_ne]; omega
          have hdec : decide (xs = ys) = false := by
            rw [decide_eq_false_iff_not]
            intro he
            rw [he] at HX
            have := HX.out
            rw [HY.out] at this
            exact hxy (Option.some.inj this).symm
          have HD := hid hdec; clear hdec
          go_wp2
          go_quiet (fail)
          go_wp2
          go_ret
          exact ⟨by rw [HD.out]; rfl, ext_drewN hb _⟩
      · obtain rfl : k = n := by omega
        have hdec : decide (xs = ys) = true := by
          have h := HT.out
          rw [List.take_of_length_le (Nat.le_of_eq HL1.out), List.take_of_length_le (Nat.le_of_eq HL2.out)] at h
          simpa using h
        have HD := hid hdec; clear hdec
        go_wp2
        go_ret
        exact ⟨by rw [HD.out]; rfl, hb⟩
  · have hdec : decide (xs = ys) = false := by
      rw [decide_eq_false_iff_not]
      intro he
      exact hne (by rw [← HL1.out, ← HL2.out, he])
    have HD := hid hdec; clear hdec
    have e1 : ((n : Int) != (m : Int)) = true := by rw [bne_iff_ne]; omega
    go_enter Try.func67, Try.ntmps67
    go_wp2
    go_ret
    exact ⟨by rw [HD.out]; rfl, Below.refl _ _⟩

end Go.Proofs.Ytkcagkcphobmfaa
