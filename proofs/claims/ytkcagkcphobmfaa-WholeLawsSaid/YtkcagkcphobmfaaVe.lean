/-
  WALKS: the plain reckoning of whole numbers: From, To.
-/
import Derived.Test.YtkcagkcphobmfaaVd
set_option linter.unusedVariables false
set_option linter.unusedSimpArgs false
namespace Go.Proofs.Ytkcagkcphobmfaa
open Go.RowKit

set_option maxHeartbeats 2000000 in
/-- From: a whole number as it is reckoned with. -/
theorem rfrom_any (ao : Option Addr) (n c : Nat) (neg : Bool) (xs : List Nat) (w : World) (hn : n ≤ 100000000) (hr : Rw .u32 B32 w ao n c xs) :
    Calls Try.prog 53 #[.agg #[.bool neg, .slice ao n c]] w fun e w' => ∃ ro k c', e = .returned (.agg #[.slice ro k c', .bool (neg && decide (0 < val xs))]) ∧ Rw .i64 B4 w' ro k c' (digs4 (val xs)) ∧ k ≤ 3 * n ∧ Below w.heap.size w w' := by
  go_enter Try.func53, Try.ntmps53
  go_wp2
  obtain ⟨hb1, hb2, hb⟩ := boxed_one w (.bool neg) (.slice ao n c) (.slice none 0 0) (.bool false) 24 28
  obtain ⟨g, hg⟩ : ∃ g, g = w.heap.size := ⟨_, rfl⟩
  rw [← hg] at hb1 hb2 ⊢
  generalize (w.alloc _).alloc _ = w1 at hb1 hb2 hb ⊢
  replace hb1 := hb1.drew
  replace hb2 := hb2.drew
  replace hb : Below w.heap.size w w1.drew := hb.drew
  have hr1 := hr.ext hb
  have HG := hid hg; clear hr hg
  have hne : g ≠ g + 1 := by omega
  go_region_held3 (fun w' => w'.cell? ⟨g, 0, none⟩ = some (.bool neg) ∧ w'.cell? ⟨g, 1, none⟩ = some (.slice ao n c))
    (first | exact held_box hb1 (Below.refl _ _) | exact held_set hb1 (ext_trans hbb hbc) hne _ _ | exact held_box hb1 (ext_trans hbb hbc) | exact held_box hb1 hbb)
    (first
      | (go_at_call 74; refine (fromN_any ao n c xs w1.drew hn hr1).mono ?_; rintro e w2 ⟨ro, k, c', rfl, h1, hk, hbb⟩)
      | (go_at_call 59; refine (rmade_any ro k c' (val xs) neg w2 h1).mono ?_; rintro e w3 ⟨rfl, hbc⟩; obtain ⟨c1, c2, f1, f2⟩ := two_cells ((hb2.ext hbb).ext hbc)))
  have hfin := set_two ((hb2.ext hbb).ext hbc) (.slice ro k c') (.bool (neg && decide (0 < val xs)))
  obtain ⟨e1, e2, _, _⟩ := two_cells hfin
  have r1 := (h1.ext hbc).apart ((hb2.ext hbb).ext hbc) (fun z h => nomatch h) (fun z h => nomatch h) (.slice ro k c') (.bool (neg && decide (0 < val xs)))
  have r3 := rmade_end (p := .slice ro k c') (q := .bool (neg && decide (0 < val xs))) (show w.heap.size ≤ g + 1 by rw [← HG.out]; omega) hb hbb hbc
  clear hfin
  generalize (World.setCell _ ⟨g + 1, 0, none⟩ _).setCell ⟨g + 1, 1, none⟩ _ = wf at e1 e2 r1 r3 ⊢
  go_wp2
  refine bodyPost_ret (by simp [results, Try.results53, go_sem, e1, e2]; try rfl) rfl ?_
  exact ⟨_, _, _, rfl, r1, hk, r3⟩

set_option maxHeartbeats 2000000 in
/-- To: a whole number as api has it. -/
theorem rto_any (ao : Option Addr) (n c N : Nat) (neg : Bool) (w : World) (hn : n ≤ 1000000000) (hr : Rw .i64 B4 w ao n c (digs4 N)) :
    Calls Try.prog 22 #[.agg #[.slice ao n c, .bool neg]] w fun e w' => ∃ ro k c', e = .returned (.agg #[.bool neg, .slice ro k c']) ∧ Rw .u32 B32 w' ro k c' (limbs N) ∧ k ≤ n ∧ Below w.heap.size w w' := by
  go_enter Try.func22, Try.ntmps22
  go_wp2
  obtain ⟨hb1, hb2, hb⟩ := boxed_one w (.slice ao n c) (.bool neg) (.bool false) (.slice none 0 0) 28 24
  obtain ⟨g, hg⟩ : ∃ g, g = w.heap.size := ⟨_, rfl⟩
  rw [← hg] at hb1 hb2 ⊢
  generalize (w.alloc _).alloc _ = w1 at hb1 hb2 hb ⊢
  replace hb1 := hb1.drew
  replace hb2 := hb2.drew
  replace hb : Below w.heap.size w w1.drew := hb.drew
  have hr1 := hr.ext hb
  have HG := hid hg; clear hr hg
  have hne : g ≠ g + 1 := by omega
  go_region_held3 (fun w' => w'.cell? ⟨g, 0, none⟩ = some (.slice ao n c) ∧ w'.cell? ⟨g, 1, none⟩ = some (.bool neg))
    (first | exact held_box hb1 (Below.refl _ _) | exact held_set hb1 hbb hne _ _ | exact held_box hb1 hbb)
    (first
      | (go_at_call 62; refine (toN_any ao n c N w1.drew hn hr1).mono ?_; rintro e w2 ⟨ro, k, c', rfl, h1, hk, hbb⟩; obtain ⟨c1, c2, f1, f2⟩ := two_cells (hb2.ext hbb)))
  all_goals
    have hfin := set_two (hb2.ext hbb) (.bool neg) (.slice ro k c')
    obtain ⟨e1, e2, _, _⟩ := two_cells hfin
    have r1 := h1.apart (hb2.ext hbb) (fun z h => nomatch h) (fun z h => nomatch h) (.bool neg) (.slice ro k c')
    have r3 := rmade_end (p := .bool neg) (q := .slice ro k c') (show w.heap.size ≤ g + 1 by rw [← HG.out]; omega) hb hbb (Below.refl _ _)
    clear hfin
    generalize (World.setCell _ ⟨g + 1, 0, none⟩ _).setCell ⟨g + 1, 1, none⟩ _ = wf at e1 e2 r1 r3 ⊢
    go_wp2
    refine bodyPost_ret (by simp [results, Try.results22, go_sem, e1, e2]; try rfl) rfl ?_
    exact ⟨_, _, _, rfl, r1, hk, r3⟩

end Go.Proofs.Ytkcagkcphobmfaa
