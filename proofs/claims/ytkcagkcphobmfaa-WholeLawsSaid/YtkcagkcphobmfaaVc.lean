/-
  WALKS: whole numbers: Abs, Add; what they return, as whole numbers.
-/
import Derived.Test.YtkcagkcphobmfaaVb
set_option linter.unusedVariables false
set_option linter.unusedSimpArgs false
namespace Go.Proofs.Ytkcagkcphobmfaa
open Go.RowKit

set_option maxHeartbeats 2000000 in
theorem whole_Abs_any (ao : Option Addr) (n c : Nat) (neg : Bool) (xs : List Nat) (w : World) (hn : n ≤ 1073741824) (hr : Rw .u32 B32 w ao n c xs) :
    Calls Try.prog 35 #[.agg #[.bool neg, .slice ao n c]] w fun e w' => ∃ ro k c', e = .returned (.agg #[.bool false, .slice ro k c']) ∧ Rw .u32 B32 w' ro k c' (limbs (val xs)) ∧ Own w.heap.size w' ro c' ∧ Below w.heap.size w w' := by
  go_enter Try.func35, Try.ntmps35
  go_wp2_with fail
  obtain ⟨hb1, hb2, hb⟩ := boxed_one w (.bool neg) (.slice ao n c) (.bool false) (.slice none 0 0) 24 24
  obtain ⟨g, hg⟩ : ∃ g, g = w.heap.size := ⟨_, rfl⟩
  rw [← hg] at hb1 hb2 ⊢
  generalize (w.alloc _).alloc _ = w1 at hb1 hb2 hb ⊢
  have hr1 := hr.ext hb
  have HG := hid hg; clear hr hg
  refine (norm_any ao n c xs w1 hn hr1).mono ?_
  rintro e w2 ⟨ro, k, c', rfl, hk, h1, ho, hbb⟩
  go_wp2_with fail
  refine (made_any ro k c' (val xs) false w2 h1).mono ?_
  rintro e w3 ⟨rfl, hbc⟩
  rw [Bool.false_and]
  obtain ⟨c1, c2, f1, f2⟩ := two_cells ((hb2.ext hbb).ext hbc)
  have hfin := set_two ((hb2.ext hbb).ext hbc) (.bool false) (.slice ro k c')
  obtain ⟨e1, e2, _, _⟩ := two_cells hfin
  obtain ⟨r1, r2, r3⟩ := made_end (p := .bool false) (q := .slice ro k c') (by rw [← HG.out]; omega) hb2.lt hb hbb hbc h1 ho
  clear hfin
  go_wp2
  generalize (World.setCell _ ⟨g + 1, 0, none⟩ _).setCell ⟨g + 1, 1, none⟩ _ = wf at e1 e2 r1 r2 r3 ⊢
  refine bodyPost_ret (by simp [results, Try.results35, go_sem, e1, e2]; try rfl) rfl ?_
  exact ⟨_, _, _, rfl, r1, r2, r3⟩

set_option maxHeartbeats 4000000 in
theorem whole_Add_walk (ao bo : Option Addr) (n c m d : Nat) (s t : Bool) (xs ys : List Nat) (w : World) (hn : n ≤ 1073741824) (hm : m ≤ 1073741824) (hr : Rw .u32 B32 w ao n c xs) (hs : Rw .u32 B32 w bo m d ys) :
    Calls Try.prog 37 #[.agg #[.bool s, .slice ao n c], .agg #[.bool t, .slice bo m d]] w fun e w' => ∃ ro k c' sg M, e = .returned (.agg #[.bool (sg && decide (0 < M)), .slice ro k c']) ∧ zv sg M = zv s (val xs) + zv t (val ys) ∧ Rw .u32 B32 w' ro k c' (limbs M) ∧ Own w.heap.size w' ro c' ∧ Below w.heap.size w w' := by
  go_enter Try.func37, Try.ntmps37
  obtain ⟨hb1, hb2, hb3, hb⟩ := boxed_two w (.bool s) (.slice ao n c) (.bool t) (.slice bo m d) (.bool false) (.slice none 0 0) 24 24 24
  obtain ⟨g, hg⟩ : ∃ g, g = w.heap.size := ⟨_, rfl⟩
  go_upto_region 1 with (fail)
  rw [← hg] at hb1 hb2 hb3 ⊢
  generalize ((w.alloc _).alloc _).alloc _ = w1 at hb1 hb2 hb3 hb ⊢
  have hr0 := hr.ext hb
  have hs0 := hs.ext hb
  have HG := hid hg; clear hr hs hg
  have hne : g ≠ g + 2 := by omega
  have hne2 : g + 1 ≠ g + 2 := by omega
  obtain ⟨a1, a2, a3, a4⟩ := held_box2 hb1 hb2 (Below.refl _ w1)
  by_cases hst : s = t
  · subst hst
    have hbeq := bool_beq s
    go_upto_region 2 with (fail)
    clear a1 a2 a3 a4
    replace hb1 := hb1.drew
    replace hb2 := hb2.drew
    replace hb3 := hb3.drew
    replace hb : Below w.heap.size w w1.drew := hb.drew
    have hr1 : Rw .u32 B32 w1.drew ao n c xs := hr0
    have hs1 : Rw .u32 B32 w1.drew bo m d ys := hs0
    clear hr0 hs0 hbeq
    go_region_held3 (fun w' => w'.cell? ⟨g, 0, none⟩ = some (.bool s) ∧ w'.cell? ⟨g, 1, none⟩ = some (.slice ao n c) ∧ w'.cell? ⟨g + 1, 0, none⟩ = some (.bool s) ∧ w'.cell? ⟨g + 1, 1, none⟩ = some (.slice bo m d))
      (first | exact held_box2 hb1 hb2 (Below.refl _ _) | exact held_set2 hb1 hb2 (ext_trans hbb hbc) hne hne2 _ _ | exact held_box2 hb1 hb2 (ext_trans hbb hbc) | exact held_box2 hb1 hb2 hbb)
      (first
        | (go_at_call 56; refine (add_any ao bo n c m d xs ys w1.drew hn hm hr1 hs1).mono ?_; rintro e w2 ⟨ro, k, c', rfl, h1, ho, hbb⟩)
        | (go_at_call 55; refine (made_any ro k c' (val xs + val ys) s w2 h1).mono ?_; rintro e w3 ⟨rfl, hbc⟩; obtain ⟨c1, c2, f1, f2⟩ := two_cells ((hb3.ext hbb).ext hbc)))
    have hfin := set_two ((hb3.ext hbb).ext hbc) (.bool (s && decide (0 < val xs + val ys))) (.slice ro k c')
    obtain ⟨e1, e2, _, _⟩ := two_cells hfin
    obtain ⟨r1, r2, r3⟩ := made_end (p := .bool (s && decide (0 < val xs + val ys))) (q := .slice ro k c') (by rw [← HG.out]; omega) hb3.lt hb hbb hbc h1 ho
    clear hfin
    generalize (World.setCell _ ⟨g + 2, 0, none⟩ _).setCell ⟨g + 2, 1, none⟩ _ = wf at e1 e2 r1 r2 r3 ⊢
    go_wp2
    refine bodyPost_ret (by simp [results, Try.results37, go_sem, e1, e2]; try rfl) rfl ?_
    refine ⟨_, _, _, s, val xs + val ys, rfl, ?_, r1, r2, r3⟩
    cases s <;> simp [zv] <;> omega
  · have hbne : (s == t) = false := by rw [beq_eq_false_iff_ne]; exact hst
    have hst2 : t = !s := by revert hst; cases s <;> cases t <;> simp
    have HST := hid hst2
    clear hst hst2
    go_wp2_with fail
    refine (sub_any ao bo n c m d xs ys w1 hn hm hr0 hs0).mono ?_
    rintro e w2 ⟨ro, k, c', rfl, h1, ho, hbb⟩
    obtain ⟨a1, a2, a3, a4⟩ := held_box2 hb1 hb2 hbb
    clear hbne
    by_cases hle : val ys ≤ val xs
    · rw [decide_eq_true hle]
      have HLE := hid hle
      go_wp2_with fail
      refine (made_any ro k c' (val xs - val ys) s w2 h1).mono ?_
      rintro e w3 ⟨rfl, hbc⟩
      obtain ⟨c1, c2, f1, f2⟩ := two_cells ((hb3.ext hbb).ext hbc)
      have hfin := set_two ((hb3.ext hbb).ext hbc) (.bool (s && decide (0 < val xs - val ys))) (.slice ro k c')
      obtain ⟨e1, e2, _, _⟩ := two_cells hfin
      obtain ⟨r1, r2, r3⟩ := made_end (p := .bool (s && decide (0 < val xs - val ys))) (q := .slice ro k c') (by rw [← HG.out]; omega) hb3.lt hb hbb hbc h1 ho
      obtain ⟨sg, hsg⟩ : ∃ sg, sg = (s && decide (0 < val xs - val ys)) := ⟨_, rfl⟩
      rw [← hsg] at e1 e2 r1 r2 r3 ⊢
      have HSG := hid hsg
      clear hfin a1 a2 a3 a4 hle hsg
      go_wp2
      generalize (World.setCell _ ⟨g + 2, 0, none⟩ _).setCell ⟨g + 2, 1, none⟩ _ = wf at e1 e2 r1 r2 r3 ⊢
      refine bodyPost_ret (by simp [results, Try.results37, go_sem, e1, e2]; try rfl) rfl ?_
      refine ⟨_, _, _, s, val xs - val ys, by rw [HSG.out], ?_, r1, r2, r3⟩
      rw [HST.out]
      have hle := HLE.out
      clear HSG HST
      cases s <;> simp [zv] <;> omega
    · rw [decide_eq_false hle]
      have HLE := hid hle
      have hb2b := hb3.ext hbb
      go_wp2_with fail
      refine (sub_any bo ao m d n c ys xs w2 hm hn (hs0.ext hbb) (hr0.ext hbb)).mono ?_
      rintro e w3 ⟨ro2, k2, c2', rfl, h2, ho2, hbc⟩
      have hbbc := ext_trans hbb hbc
      obtain ⟨b1, b2, b3, b4⟩ := held_box2 hb1 hb2 hbbc
      clear a1 a2 a3 a4
      go_wp2_with fail
      refine (made_any ro2 k2 c2' (val ys - val xs) t w3 h2).mono ?_
      rintro e w4 ⟨rfl, hbd⟩
      obtain ⟨c1, c2, f1, f2⟩ := two_cells ((hb3.ext hbbc).ext hbd)
      have hfin := set_two ((hb3.ext hbbc).ext hbd) (.bool (t && decide (0 < val ys - val xs))) (.slice ro2 k2 c2')
      obtain ⟨e1, e2, _, _⟩ := two_cells hfin
      obtain ⟨r1, r2, r3⟩ := made_end (p := .bool (t && decide (0 < val ys - val xs))) (q := .slice ro2 k2 c2') (by rw [← HG.out]; omega) hb3.lt hb hbbc hbd h2 (ho2.mono hbb.size)
      obtain ⟨sg, hsg⟩ : ∃ sg, sg = (t && decide (0 < val ys - val xs)) := ⟨_, rfl⟩
      rw [← hsg] at e1 e2 r1 r2 r3 ⊢
      have HSG := hid hsg
      clear hfin b1 b2 b3 b4 hle hsg
      go_wp2
      generalize (World.setCell _ ⟨g + 2, 0, none⟩ _).setCell ⟨g + 2, 1, none⟩ _ = wf at e1 e2 r1 r2 r3 ⊢
      refine bodyPost_ret (by simp [results, Try.results37, go_sem, e1, e2]; try rfl) rfl ?_
      refine ⟨_, _, _, t, val ys - val xs, by rw [HSG.out], ?_, r1, r2, r3⟩
      have hst := HST.out
      have hle := HLE.out
      clear HSG HST HLE
      subst hst
      cases s <;> simp [zv] <;> omega

end Go.Proofs.Ytkcagkcphobmfaa
