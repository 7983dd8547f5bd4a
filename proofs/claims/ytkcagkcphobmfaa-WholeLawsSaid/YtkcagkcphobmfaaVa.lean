/-
  WALKS: whole numbers: made, Norm, Neg, Abs.
-/
import Derived.Test.YtkcagkcphobmfaaGen
import Derived.Handy
import Derived.Deep.RegionHeld3
import Derived.RegionCalls
import Derived.Deep.RegionWith
set_option linter.unusedVariables false
set_option linter.unusedSimpArgs false
namespace Go.Proofs.Ytkcagkcphobmfaa
open Go.RowKit

/-- A whole number by its sign and size. -/
def zv (neg : Bool) (m : Nat) : Int := if neg then -(m : Int) else m

theorem zv_neg (neg : Bool) (m : Nat) : decide (zv neg m < 0) = (neg && decide (0 < m)) := by
  cases neg <;> simp [zv] <;> omega
theorem zv_abs (neg : Bool) (m : Nat) : (zv neg m).natAbs = m := by cases neg <;> simp [zv]

/-- made: of a normal row. -/
theorem made_any (ao : Option Addr) (n c M : Nat) (neg : Bool) (w : World) (hr : Rw .u32 B32 w ao n c (limbs M)) :
    Calls Try.prog 55 #[.slice ao n c, .bool neg] w fun e w' => e = .returned (.agg #[.bool (neg && decide (0 < M)), .slice ao n c]) ∧ Below w.heap.size w w' := by
  have h0 := limbs_len_zero hr
  have hd : decide (0 < n) = decide (0 < M) := by rw [decide_eq_decide]; omega
  clear h0
  cases neg
  · go_enter Try.func55, Try.ntmps55
    go_wp2
    go_returns
    exact ⟨rfl, alloc_ext _ _⟩
  · rw [Bool.true_and, ← hd]
    go_enter Try.func55, Try.ntmps55
    by_cases hn : 0 < n
    · go_wp2
      go_returns
      exact ⟨by rw [decide_eq_true hn], alloc_ext _ _⟩
    · obtain rfl : n = 0 := by omega
      go_wp2
      go_returns
      exact ⟨by rw [decide_eq_false hn], alloc_ext _ _⟩

/-- Two cells of a block of the call's own, as the walk's loads and stores ask for them. -/
theorem two_cells {w : World} {b : Nat} {t : TypeId} {x y : Value} (h : Blk w b t [x, y]) : w.cell? ⟨b, 0, none⟩ = some x ∧ w.cell? ⟨b, 1, none⟩ = some y ∧ w.frozen? ⟨b, 0, none⟩ = false ∧ w.frozen? ⟨b, 1, none⟩ = false :=
  ⟨h.cell 0 (by simp), h.cell 1 (by simp), h.free 0, h.free 1⟩

/-- A boxed struct of two cells, and a block behind it for what is returned. -/
theorem boxed_one (w : World) (x y p q : Value) (t u : TypeId) :
    Blk ((w.alloc (.cells #[x, y] t)).alloc (.cells #[p, q] u)) w.heap.size t [x, y] ∧
    Blk ((w.alloc (.cells #[x, y] t)).alloc (.cells #[p, q] u)) (w.heap.size + 1) u [p, q] ∧
    Below w.heap.size w ((w.alloc (.cells #[x, y] t)).alloc (.cells #[p, q] u)) := by
  have h1 := (Blk.new w t [x, y]).alloc (.cells #[p, q] u)
  have h2 := Blk.new (w.alloc (.cells #[x, y] t)) u [p, q]
  rw [World.size_alloc] at h2
  exact ⟨h1, h2, ext_trans (alloc_ext w _) (alloc_ext _ _)⟩

/-- A box stays while the call makes memory .. -/
theorem held_box {w w' : World} {g : Nat} {t : TypeId} {x y : Value} (h1 : Blk w g t [x, y]) (hb : Below w.heap.size w w') :
    w'.cell? ⟨g, 0, none⟩ = some x ∧ w'.cell? ⟨g, 1, none⟩ = some y :=
  ⟨(two_cells (h1.ext hb)).1, (two_cells (h1.ext hb)).2.1⟩

/-- .. and while another block is written. -/
theorem held_set {w w' : World} {g r : Nat} {t : TypeId} {x y : Value} (h1 : Blk w g t [x, y]) (hb : Below w.heap.size w w') (hne : g ≠ r) (p q : Value) :
    ((w'.setCell ⟨r, 0, none⟩ p).setCell ⟨r, 1, none⟩ q).cell? ⟨g, 0, none⟩ = some x ∧ ((w'.setCell ⟨r, 0, none⟩ p).setCell ⟨r, 1, none⟩ q).cell? ⟨g, 1, none⟩ = some y := by
  have h := ((h1.ext hb).other (a := ⟨r, 0, none⟩) hne p).other (a := ⟨r, 1, none⟩) hne q
  exact ⟨(two_cells h).1, (two_cells h).2.1⟩

/-- A struct of two cells, stored. -/
theorem set_two {w : World} {r : Nat} {t : TypeId} {x y : Value} (h : Blk w r t [x, y]) (p q : Value) : Blk ((w.setCell ⟨r, 0, none⟩ p).setCell ⟨r, 1, none⟩ q) r t [p, q] := by
  have h1 := (h.set 0 p).set 1 q
  exact h1

/-- What a region 'made(limb.F(..), ..)' leaves: the row that is returned stands, and nothing elder is written. -/
theorem made_end {w w1 w2 w3 : World} {g k c N : Nat} {ro : Option Addr} {p q : Value} (hg : w.heap.size ≤ g) (hlt : g < w1.heap.size) (hb : Below w.heap.size w w1) (hbb : Below w1.heap.size w1 w2) (hbc : Below w2.heap.size w2 w3)
    (h1 : Rw .u32 B32 w2 ro k c (limbs N)) (ho : Own w1.heap.size w2 ro c) :
    Rw .u32 B32 ((w3.setCell ⟨g, 0, none⟩ p).setCell ⟨g, 1, none⟩ q) ro k c (limbs N) ∧ Own w.heap.size ((w3.setCell ⟨g, 0, none⟩ p).setCell ⟨g, 1, none⟩ q) ro c ∧ Below w.heap.size w ((w3.setCell ⟨g, 0, none⟩ p).setCell ⟨g, 1, none⟩ q) := by
  have h3 := h1.ext hbc
  have ho3 := ho.ext hbc
  exact ⟨(h3.setElder ho3 hlt).setElder ho3.set hlt, (ho3.set.set).mono hb.size, ((ext_trans hb (ext_trans hbb hbc)).setCell hg _).setCell hg _⟩

set_option maxHeartbeats 2000000 in
theorem whole_Norm_any (ao : Option Addr) (n c : Nat) (neg : Bool) (xs : List Nat) (w : World) (hn : n ≤ 1073741824) (hr : Rw .u32 B32 w ao n c xs) :
    Calls Try.prog 43 #[.agg #[.bool neg, .slice ao n c]] w fun e w' => ∃ ro k c', e = .returned (.agg #[.bool (neg && decide (0 < val xs)), .slice ro k c']) ∧ Rw .u32 B32 w' ro k c' (limbs (val xs)) ∧ Own w.heap.size w' ro c' ∧ Below w.heap.size w w' := by
  go_enter Try.func43, Try.ntmps43
  go_wp2
  obtain ⟨hb1, hb2, hb⟩ := boxed_one w (.bool neg) (.slice ao n c) (.bool false) (.slice none 0 0) 24 24
  obtain ⟨g, hg⟩ : ∃ g, g = w.heap.size := ⟨_, rfl⟩
  rw [← hg] at hb1 hb2 ⊢
  generalize (w.alloc _).alloc _ = w1 at hb1 hb2 hb ⊢
  replace hb1 := hb1.drew
  replace hb2 := hb2.drew
  replace hb : Below w.heap.size w w1.drew := hb.drew
  have hr1 := hr.ext hb
  have HG := hid hg; clear hr hg
  have hne : g ≠ g + 1 := by omega
  go_region_held3 (fun w' => w'.cell? ⟨g, 0, none⟩ = some (.bool neg) ∧ w'.cell? ⟨g, 1, none⟩ = some (.slice ao n c))
    (first | exact held_box hb1 (Below.refl _ _) | exact held_set hb1 (ext_trans hbb hbc) hne _ _ | exact held_box hb1 (ext_trans hbb hbc) | exact held_box hb1 hbb)
    (first
      | (go_at_call 63; refine (norm_any ao n c xs w1.drew hn hr1).mono ?_; rintro e w2 ⟨ro, k, c', rfl, hk, h1, ho, hbb⟩)
      | (go_at_call 55; refine (made_any ro k c' (val xs) neg w2 h1).mono ?_; rintro e w3 ⟨rfl, hbc⟩; obtain ⟨c1, c2, f1, f2⟩ := two_cells ((hb2.ext hbb).ext hbc)))
  have hfin := set_two ((hb2.ext hbb).ext hbc) (.bool (neg && decide (0 < val xs))) (.slice ro k c')
  obtain ⟨e1, e2, _, _⟩ := two_cells hfin
  obtain ⟨r1, r2, r3⟩ := made_end (p := .bool (neg && decide (0 < val xs))) (q := .slice ro k c') (by rw [← HG.out]; omega) hb2.lt hb hbb hbc h1 ho
  clear hfin
  generalize (World.setCell _ ⟨g + 1, 0, none⟩ _).setCell ⟨g + 1, 1, none⟩ _ = wf at e1 e2 r1 r2 r3 ⊢
  go_wp2
  refine bodyPost_ret (by simp [results, Try.results43, go_sem, e1, e2]; try rfl) rfl ?_
  exact ⟨_, _, _, rfl, r1, r2, r3⟩

end Go.Proofs.Ytkcagkcphobmfaa
