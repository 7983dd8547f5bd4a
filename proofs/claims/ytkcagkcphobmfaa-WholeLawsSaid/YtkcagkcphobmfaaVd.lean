/-
  WALKS: the plain reckoning of whole numbers: made, From, To, Zero.
-/
import Derived.Test.YtkcagkcphobmfaaVc
set_option linter.unusedVariables false
set_option linter.unusedSimpArgs false
namespace Go.Proofs.Ytkcagkcphobmfaa
open Go.RowKit

theorem digs4_len_zero {w : World} {k c N : Nat} {ro : Option Addr} (h : Rw .i64 B4 w ro k c (digs4 N)) : k = 0 ↔ N = 0 := by
  have h1 := h.len
  constructor
  · intro hk
    subst hk
    exact digs4_eq_nil.1 (List.length_eq_zero_iff.1 h1)
  · intro hN
    subst hN
    exact h1.symm

theorem rmade_any (ao : Option Addr) (n c M : Nat) (neg : Bool) (w : World) (hr : Rw .i64 B4 w ao n c (digs4 M)) :
    Calls Try.prog 59 #[.slice ao n c, .bool neg] w fun e w' => e = .returned (.agg #[.slice ao n c, .bool (neg && decide (0 < M))]) ∧ Below w.heap.size w w' := by
  have h0 := digs4_len_zero hr
  have hd : decide (0 < n) = decide (0 < M) := by rw [decide_eq_decide]; omega
  clear h0
  cases neg
  · go_enter Try.func59, Try.ntmps59
    go_wp2
    go_returns
    exact ⟨rfl, alloc_ext _ _⟩
  · rw [Bool.true_and, ← hd]
    go_enter Try.func59, Try.ntmps59
    by_cases hn : 0 < n
    · go_wp2
      go_returns
      exact ⟨by rw [decide_eq_true hn], alloc_ext _ _⟩
    · obtain rfl : n = 0 := by omega
      go_wp2
      go_returns
      exact ⟨by rw [decide_eq_false hn], alloc_ext _ _⟩

/-- A row of integers does not lie in a block that holds none: it stands while that block is written. -/
theorem Rw.apart {k : IntKind} {B : Nat} {w : World} {ao : Option Addr} {n c g : Nat} {t : TypeId} {xs : List Nat} {x y : Value} (h : Rw k B w ao n c xs) (hb : Blk w g t [x, y]) (hx : ∀ z, x ≠ .int k z) (hy : ∀ z, y ≠ .int k z) (p q : Value) :
    Rw k B ((w.setCell ⟨g, 0, none⟩ p).setCell ⟨g, 1, none⟩ q) ao n c xs := by
  obtain ⟨h1, h2, h3, h4, h5⟩ := h
  refine ⟨h1, h2, h3, h4, ?_⟩
  rcases h5 with h5 | ⟨b, off, rfl, h5⟩
  · exact Or.inl h5
  · by_cases hn : ints k xs = []
    · exact Or.inl hn
    · have hlen : 0 < (ints k xs).length := List.length_pos_iff.2 hn
      have hne : b ≠ g := by
        rintro rfl
        have h6 := h5 0 hlen
        rw [Nat.add_zero, ints_get] at h6
        have hc := cell_of_row w b off _ t (0, 0) hb
        rw [h6] at hc
        match off, hc with
        | 0, hc => exact hx _ (Option.some.inj hc).symm
        | 1, hc => exact hy _ (Option.some.inj hc).symm
        | _ + 2, hc => simp at hc
      refine Or.inr ⟨b, off, rfl, fun j hj => ?_⟩
      rw [World.cell?_of_block (w := w) (by rw [heap_setCell_other _ _ _ _ (fun h => hne h), heap_setCell_other _ _ _ _ (fun h => hne h)])]
      exact h5 j hj

/-- What a region 'made(..)' leaves elsewhere. -/
theorem rmade_end {w w1 w2 w3 : World} {g : Nat} {p q : Value} (hg : w.heap.size ≤ g) (hb : Below w.heap.size w w1) (hbb : Below w1.heap.size w1 w2) (hbc : Below w2.heap.size w2 w3) :
    Below w.heap.size w ((w3.setCell ⟨g, 0, none⟩ p).setCell ⟨g, 1, none⟩ q) :=
  ((ext_trans hb (ext_trans hbb hbc)).setCell hg _).setCell hg _

end Go.Proofs.Ytkcagkcphobmfaa
