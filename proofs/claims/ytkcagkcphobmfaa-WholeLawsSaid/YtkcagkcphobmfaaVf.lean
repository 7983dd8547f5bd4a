/-
  WALKS: keep.Int.
-/
import Derived.Test.YtkcagkcphobmfaaVe
set_option linter.unusedVariables false
set_option linter.unusedSimpArgs false
namespace Go.Proofs.Ytkcagkcphobmfaa
open Go.RowKit

set_option maxHeartbeats 2000000 in
/-- keep.Int: a number of at most k limbs. -/
theorem keepInt_any (ao : Option Addr) (n c k : Nat) (neg : Bool) (xs : List Nat) (w : World) (hn : n ≤ 9223372036854775807) (hk : k ≤ 1000000) (hr : Rw .u32 B32 w ao n c xs) :
    Calls Try.prog 52 #[.agg #[.bool neg, .slice ao n c], .int .i64 (k : Int)] w fun e w' => ∃ m, e = .returned (.agg #[.bool neg, .slice ao m c]) ∧ m ≤ k ∧ Rw .u32 B32 w' ao m c (xs.take k) ∧ Below w.heap.size w w' := by
  go_enter Try.func52, Try.ntmps52
  go_wp2
  obtain ⟨hb1, hb2, hb⟩ := boxed_one w (.bool neg) (.slice ao n c) (.bool false) (.slice none 0 0) 24 24
  obtain ⟨g, hg⟩ : ∃ g, g = w.heap.size := ⟨_, rfl⟩
  rw [← hg] at hb1 hb2 ⊢
  generalize (w.alloc _).alloc _ = w1 at hb1 hb2 hb ⊢
  replace hb1 := hb1.drew
  have hb2w := hb2
  replace hb2 := hb2.drew
  have hbw := hb
  replace hb : Below w.heap.size w w1.drew := hb.drew
  have hr1 := hr.ext hb
  have HG := hid hg; clear hr hg
  have hne : g ≠ g + 1 := by omega
  go_region_held3 (fun w' => w'.cell? ⟨g, 0, none⟩ = some (.bool neg) ∧ w'.cell? ⟨g, 1, none⟩ = some (.slice ao n c))
    (first | exact held_box hb1 (Below.refl _ _) | exact held_set hb1 (Below.refl _ _) hne _ _)
    (first
      | (go_at_call 73; refine (row_any ao n c k xs w1.drew hn hk hr1).mono ?_; rintro e _ ⟨m, rfl, hm, hm2, h1, rfl⟩; obtain ⟨c1, c2, f1, f2⟩ := two_cells hb2w))
  all_goals
    have hfin := (set_two hb2w (.bool neg) (.slice ao m c)).drew
    obtain ⟨e1, e2, _, _⟩ := two_cells hfin
    have h1w : Rw .u32 B32 w1 ao m c (xs.take k) := h1
    have r1 : Rw .u32 B32 ((w1.setCell ⟨g + 1, 0, none⟩ (.bool neg)).setCell ⟨g + 1, 1, none⟩ (.slice ao m c)).drew ao m c (xs.take k) := h1w.apart hb2w (fun z h => nomatch h) (fun z h => nomatch h) (.bool neg) (.slice ao m c)
    have r3 := (rmade_end (p := .bool neg) (q := .slice ao m c) (show w.heap.size ≤ g + 1 by rw [← HG.out]; omega) hbw (Below.refl _ _) (Below.refl _ _)).drew
    clear hfin
    generalize ((World.setCell _ ⟨g + 1, 0, none⟩ _).setCell ⟨g + 1, 1, none⟩ _).drew = wf at e1 e2 r1 r3 ⊢
    go_wp2
    refine bodyPost_ret (by simp [results, Try.results52, go_sem, e1, e2]; try rfl) rfl ?_
    exact ⟨_, rfl, hm, r1, r3⟩

end Go.Proofs.Ytkcagkcphobmfaa
