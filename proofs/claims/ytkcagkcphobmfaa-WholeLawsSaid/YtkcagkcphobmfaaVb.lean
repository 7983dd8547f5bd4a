/-
  WALKS: whole numbers: Neg, Mul.
-/
import Derived.Test.YtkcagkcphobmfaaVa
set_option linter.unusedVariables false
set_option linter.unusedSimpArgs false
namespace Go.Proofs.Ytkcagkcphobmfaa
open Go.RowKit

/-- Two boxed structs of two cells, and a block behind them for what is returned. -/
theorem boxed_two (w : World) (x y x2 y2 p q : Value) (t t2 u : TypeId) :
    Blk (((w.alloc (.cells #[x, y] t)).alloc (.cells #[x2, y2] t2)).alloc (.cells #[p, q] u)) w.heap.size t [x, y] ∧
    Blk (((w.alloc (.cells #[x, y] t)).alloc (.cells #[x2, y2] t2)).alloc (.cells #[p, q] u)) (w.heap.size + 1) t2 [x2, y2] ∧
    Blk (((w.alloc (.cells #[x, y] t)).alloc (.cells #[x2, y2] t2)).alloc (.cells #[p, q] u)) (w.heap.size + 2) u [p, q] ∧
    Below w.heap.size w (((w.alloc (.cells #[x, y] t)).alloc (.cells #[x2, y2] t2)).alloc (.cells #[p, q] u)) := by
  have h1 := ((Blk.new w t [x, y]).alloc (.cells #[x2, y2] t2)).alloc (.cells #[p, q] u)
  have h2 := (Blk.new (w.alloc (.cells #[x, y] t)) t2 [x2, y2]).alloc (.cells #[p, q] u)
  have h3 := Blk.new ((w.alloc (.cells #[x, y] t)).alloc (.cells #[x2, y2] t2)) u [p, q]
  rw [World.size_alloc] at h2 h3
  rw [World.size_alloc] at h3
  exact ⟨h1, h2, h3, ext_trans (alloc_ext w _) (ext_trans (alloc_ext _ _) (alloc_ext _ _))⟩

theorem held_box2 {w w' : World} {g r : Nat} {t t2 : TypeId} {x y x2 y2 : Value} (h1 : Blk w g t [x, y]) (h2 : Blk w r t2 [x2, y2]) (hb : Below w.heap.size w w') :
    w'.cell? ⟨g, 0, none⟩ = some x ∧ w'.cell? ⟨g, 1, none⟩ = some y ∧ w'.cell? ⟨r, 0, none⟩ = some x2 ∧ w'.cell? ⟨r, 1, none⟩ = some y2 :=
  ⟨(held_box h1 hb).1, (held_box h1 hb).2, (held_box h2 hb).1, (held_box h2 hb).2⟩

theorem held_set2 {w w' : World} {g h r : Nat} {t t2 : TypeId} {x y x2 y2 : Value} (h1 : Blk w g t [x, y]) (h2 : Blk w h t2 [x2, y2]) (hb : Below w.heap.size w w') (hne : g ≠ r) (hne2 : h ≠ r) (p q : Value) :
    ((w'.setCell ⟨r, 0, none⟩ p).setCell ⟨r, 1, none⟩ q).cell? ⟨g, 0, none⟩ = some x ∧ ((w'.setCell ⟨r, 0, none⟩ p).setCell ⟨r, 1, none⟩ q).cell? ⟨g, 1, none⟩ = some y ∧
    ((w'.setCell ⟨r, 0, none⟩ p).setCell ⟨r, 1, none⟩ q).cell? ⟨h, 0, none⟩ = some x2 ∧ ((w'.setCell ⟨r, 0, none⟩ p).setCell ⟨r, 1, none⟩ q).cell? ⟨h, 1, none⟩ = some y2 :=
  ⟨(held_set h1 hb hne p q).1, (held_set h1 hb hne p q).2, (held_set h2 hb hne2 p q).1, (held_set h2 hb hne2 p q).2⟩

set_option maxHeartbeats 2000000 in
theorem whole_Neg_any (ao : Option Addr) (n c : Nat) (neg : Bool) (xs : List Nat) (w : World) (hn : n ≤ 1073741824) (hr : Rw .u32 B32 w ao n c xs) :
    Calls Try.prog 34 #[.agg #[.bool neg, .slice ao n c]] w fun e w' => ∃ ro k c', e = .returned (.agg #[.bool ((!neg) && decide (0 < val xs)), .slice ro k c']) ∧ Rw .u32 B32 w' ro k c' (limbs (val xs)) ∧ Own w.heap.size w' ro c' ∧ Below w.heap.size w w' := by
  go_enter Try.func34, Try.ntmps34
  go_wp2
  obtain ⟨hb1, hb2, hb⟩ := boxed_one w (.bool neg) (.slice ao n c) (.bool false) (.slice none 0 0) 24 24
  obtain ⟨g, hg⟩ : ∃ g, g = w.heap.size := ⟨_, rfl⟩
  rw [← hg] at hb1 hb2 ⊢
  generalize (w.alloc _).alloc _ = w1 at hb1 hb2 hb ⊢
  replace hb1 := hb1.drew
  replace hb2 := hb2.drew
  replace hb : Below w.heap.size w w1.drew := hb.drew
  have hr1 := hr.ext hb
  have HG := hid hg; clear hr hg
  have hne : g ≠ g + 1 := by omega
  go_region_held3 (fun w' => w'.cell? ⟨g, 0, none⟩ = some (.bool neg) ∧ w'.cell? ⟨g, 1, none⟩ = some (.slice ao n c))
    (first | exact held_box hb1 (Below.refl _ _) | exact held_set hb1 (ext_trans hbb hbc) hne _ _ | exact held_box hb1 (ext_trans hbb hbc) | exact held_box hb1 hbb)
    (first
      | (go_at_call 63; refine (norm_any ao n c xs w1.drew hn hr1).mono ?_; rintro e w2 ⟨ro, k, c', rfl, hk, h1, ho, hbb⟩)
      | (go_at_call 55; refine (made_any ro k c' (val xs) (!neg) w2 h1).mono ?_; rintro e w3 ⟨rfl, hbc⟩; obtain ⟨c1, c2, f1, f2⟩ := two_cells ((hb2.ext hbb).ext hbc)))
  have hfin := set_two ((hb2.ext hbb).ext hbc) (.bool ((!neg) && decide (0 < val xs))) (.slice ro k c')
  obtain ⟨e1, e2, _, _⟩ := two_cells hfin
  obtain ⟨r1, r2, r3⟩ := made_end (p := .bool ((!neg) && decide (0 < val xs))) (q := .slice ro k c') (by rw [← HG.out]; omega) hb2.lt hb hbb hbc h1 ho
  clear hfin
  generalize (World.setCell _ ⟨g + 1, 0, none⟩ _).setCell ⟨g + 1, 1, none⟩ _ = wf at e1 e2 r1 r2 r3 ⊢
  go_wp2
  refine bodyPost_ret (by simp [results, Try.results34, go_sem, e1, e2]; try rfl) rfl ?_
  exact ⟨_, _, _, rfl, r1, r2, r3⟩

set_option maxHeartbeats 4000000 in
theorem whole_Mul_any (ao bo : Option Addr) (n c m d : Nat) (s t : Bool) (xs ys : List Nat) (w : World) (hn : n ≤ 1073741824) (hm : m ≤ 1073741824) (hr : Rw .u32 B32 w ao n c xs) (hs : Rw .u32 B32 w bo m d ys) :
    Calls Try.prog 36 #[.agg #[.bool s, .slice ao n c], .agg #[.bool t, .slice bo m d]] w fun e w' => ∃ ro k c', e = .returned (.agg #[.bool ((s != t) && decide (0 < val xs * val ys)), .slice ro k c']) ∧ Rw .u32 B32 w' ro k c' (limbs (val xs * val ys)) ∧ Own w.heap.size w' ro c' ∧ Below w.heap.size w w' := by
  go_enter Try.func36, Try.ntmps36
  go_wp2
  obtain ⟨hb1, hb2, hb3, hb⟩ := boxed_two w (.bool s) (.slice ao n c) (.bool t) (.slice bo m d) (.bool false) (.slice none 0 0) 24 24 24
  obtain ⟨g, hg⟩ : ∃ g, g = w.heap.size := ⟨_, rfl⟩
  rw [← hg] at hb1 hb2 hb3 ⊢
  generalize ((w.alloc _).alloc _).alloc _ = w1 at hb1 hb2 hb3 hb ⊢
  replace hb1 := hb1.drew
  replace hb2 := hb2.drew
  replace hb3 := hb3.drew
  replace hb : Below w.heap.size w w1.drew := hb.drew
  have hr1 := hr.ext hb
  have hs1 := hs.ext hb
  have HG := hid hg; clear hr hs hg
  have hne : g ≠ g + 2 := by omega
  have hne2 : g + 1 ≠ g + 2 := by omega
  go_region_held3 (fun w' => w'.cell? ⟨g, 0, none⟩ = some (.bool s) ∧ w'.cell? ⟨g, 1, none⟩ = some (.slice ao n c) ∧ w'.cell? ⟨g + 1, 0, none⟩ = some (.bool t) ∧ w'.cell? ⟨g + 1, 1, none⟩ = some (.slice bo m d))
    (first | exact held_box2 hb1 hb2 (Below.refl _ _) | exact held_set2 hb1 hb2 (ext_trans hbb hbc) hne hne2 _ _ | exact held_box2 hb1 hb2 (ext_trans hbb hbc) | exact held_box2 hb1 hb2 hbb)
    (first
      | (go_at_call 68; refine (mul_any ao bo n c m d xs ys w1.drew hn hm hr1 hs1).mono ?_; rintro e w2 ⟨ro, k, c', rfl, h1, ho, hbb⟩)
      | (go_at_call 55; refine (made_any ro k c' (val xs * val ys) (s != t) w2 h1).mono ?_; rintro e w3 ⟨rfl, hbc⟩; obtain ⟨c1, c2, f1, f2⟩ := two_cells ((hb3.ext hbb).ext hbc)))
  have hfin := set_two ((hb3.ext hbb).ext hbc) (.bool ((s != t) && decide (0 < val xs * val ys))) (.slice ro k c')
  obtain ⟨e1, e2, _, _⟩ := two_cells hfin
  obtain ⟨r1, r2, r3⟩ := made_end (p := .bool ((s != t) && decide (0 < val xs * val ys))) (q := .slice ro k c') (by rw [← HG.out]; omega) hb3.lt hb hbb hbc h1 ho
  clear hfin
  generalize (World.setCell _ ⟨g + 2, 0, none⟩ _).setCell ⟨g + 2, 1, none⟩ _ = wf at e1 e2 r1 r2 r3 ⊢
  go_wp2
  refine bodyPost_ret (by simp [results, Try.results36, go_sem, e1, e2]; try rfl) rfl ?_
  exact ⟨_, _, _, rfl, r1, r2, r3⟩

end Go.Proofs.Ytkcagkcphobmfaa
