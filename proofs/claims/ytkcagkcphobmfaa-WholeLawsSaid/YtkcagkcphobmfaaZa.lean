/-
  WHOLE NUMBERS IN MEMORY: 'Za' (any form), 'Zn' (normal), 'Rn' (as the plain reckoning has them), with a bound on their length; the contracts so far in these words. No condition beside the bounds.
-/
import Derived.Test.YtkcagkcphobmfaaVf
set_option linter.unusedVariables false
set_option linter.unusedSimpArgs false
namespace Go.Proofs.Ytkcagkcphobmfaa
open Go.RowKit

/-- A number as api has it, in any form, of at most K limbs. -/
def Za (K : Nat) (w : World) (s : Bool) (ao : Option Addr) (n c : Nat) (z : Int) : Prop := n ≤ K ∧ ∃ xs, Rw .u32 B32 w ao n c xs ∧ z = zv s (val xs)
/-- .. normal. -/
def Zn (K : Nat) (w : World) (s : Bool) (ao : Option Addr) (n c : Nat) (z : Int) : Prop := n ≤ K ∧ Rw .u32 B32 w ao n c (limbs z.natAbs) ∧ s = decide (z < 0)
/-- .. as the plain reckoning has it. -/
def Rn (K : Nat) (w : World) (ao : Option Addr) (n c : Nat) (s : Bool) (z : Int) : Prop := n ≤ K ∧ Rw .i64 B4 w ao n c (digs4 z.natAbs) ∧ s = decide (z < 0)

theorem zv_natAbs (z : Int) : zv (decide (z < 0)) z.natAbs = z := by
  unfold zv
  by_cases h : z < 0
  · rw [decide_eq_true h, if_pos rfl]; omega
  · rw [decide_eq_false h, if_neg (by simp)]; omega

section
variable {K L : Nat} {w w' : World} {s : Bool} {ao : Option Addr} {n c : Nat} {z : Int}

theorem Zn.any (h : Zn K w s ao n c z) : Za K w s ao n c z := by
  obtain ⟨h1, h2, rfl⟩ := h
  exact ⟨h1, _, h2, by rw [val_limbs]; exact (zv_natAbs z).symm⟩
theorem Za.ext (h : Za K w s ao n c z) (he : Below w.heap.size w w') : Za K w' s ao n c z := ⟨h.1, let ⟨xs, h2, h3⟩ := h.2; ⟨xs, h2.ext he, h3⟩⟩
theorem Zn.ext (h : Zn K w s ao n c z) (he : Below w.heap.size w w') : Zn K w' s ao n c z := ⟨h.1, h.2.1.ext he, h.2.2⟩
theorem Rn.ext (h : Rn K w ao n c s z) (he : Below w.heap.size w w') : Rn K w' ao n c s z := ⟨h.1, h.2.1.ext he, h.2.2⟩
theorem Za.le (h : Za K w s ao n c z) : n ≤ K := h.1
theorem Zn.le (h : Zn K w s ao n c z) : n ≤ K := h.1
theorem Rn.le (h : Rn K w ao n c s z) : n ≤ K := h.1
theorem Za.mono (h : Za K w s ao n c z) (hk : K ≤ L) : Za L w s ao n c z := ⟨Nat.le_trans h.1 hk, h.2⟩
theorem Zn.mono (h : Zn K w s ao n c z) (hk : K ≤ L) : Zn L w s ao n c z := ⟨Nat.le_trans h.1 hk, h.2⟩
theorem Rn.mono (h : Rn K w ao n c s z) (hk : K ≤ L) : Rn L w ao n c s z := ⟨Nat.le_trans h.1 hk, h.2⟩
theorem Za.drew (h : Za K w s ao n c z) : Za K w.drew s ao n c z := h
theorem Zn.drew (h : Zn K w s ao n c z) : Zn K w.drew s ao n c z := h
theorem Rn.drew (h : Rn K w ao n c s z) : Rn K w.drew ao n c s z := h
end

/-- No cell of a box is an integer of kind k. -/
def NoInt (k : IntKind) (vs : List Value) : Prop := ∀ v ∈ vs, ∀ z, v ≠ .int k z

theorem noInt_zz (s : Bool) (a : Option Addr) (n c : Nat) (k : IntKind) : NoInt k [.bool s, .slice a n c] := by
  intro v hv z
  simp only [List.mem_cons, List.not_mem_nil, or_false] at hv
  rcases hv with rfl | rfl <;> exact fun h => nomatch h
theorem noInt_rr (s : Bool) (a : Option Addr) (n c : Nat) (k : IntKind) : NoInt k [.slice a n c, .bool s] := by
  intro v hv z
  simp only [List.mem_cons, List.not_mem_nil, or_false] at hv
  rcases hv with rfl | rfl <;> exact fun h => nomatch h

/-- The cells of block g alone are written. -/
def Upd (g : Nat) (w w' : World) : Prop := w.grownBy w' (some g) ∧ w'.heap.size = w.heap.size

theorem Upd.one (w : World) (g i : Nat) (v : Value) : Upd g w (w.setCell ⟨g, i, none⟩ v) := ⟨grown_set w g i v, by simp⟩
theorem Upd.trans {g : Nat} {a b c : World} (h : Upd g a b) (k : Upd g b c) : Upd g a c := by
  obtain ⟨⟨h1, h2, h3, h4, h5⟩, h6⟩ := h
  obtain ⟨⟨k1, k2, k3, k4, k5⟩, k6⟩ := k
  exact ⟨⟨k1.trans h1, k2.trans h2, k3.trans h3, by omega, fun j hj hne => (k5 j (by omega) hne).trans (h5 j hj hne)⟩, by omega⟩
theorem Upd.s2 (w : World) (g : Nat) (p q : Value) : Upd g w ((w.setCell ⟨g, 0, none⟩ p).setCell ⟨g, 1, none⟩ q) := (Upd.one _ _ _ _).trans (Upd.one _ _ _ _)
theorem Upd.two (w : World) (g : Nat) (p q : Value) : Upd g w ((w.setCell ⟨g, 0, none⟩ p).setCell ⟨g, 1, none⟩ q) := (Upd.one _ _ _ _).trans (Upd.one _ _ _ _)
theorem Upd.four (w : World) (g : Nat) (p q r s : Value) : Upd g w ((((w.setCell ⟨g, 0, none⟩ p).setCell ⟨g, 1, none⟩ q).setCell ⟨g, 2, none⟩ r).setCell ⟨g, 3, none⟩ s) :=
  ((Upd.two _ _ _ _).trans (Upd.one _ _ _ _)).trans (Upd.one _ _ _ _)
theorem Upd.s4 (w : World) (g : Nat) (p q r s : Value) : Upd g w ((((w.setCell ⟨g, 0, none⟩ p).setCell ⟨g, 1, none⟩ q).setCell ⟨g, 2, none⟩ r).setCell ⟨g, 3, none⟩ s) := Upd.four _ _ _ _ _ _
theorem Upd.block {g b : Nat} {w w' : World} (h : Upd g w w') (hb : b ≠ g) (hl : b < w.heap.size) : w'.heap[b]? = w.heap[b]? := by
  obtain ⟨⟨_, _, _, _, h5⟩, _⟩ := h
  exact h5 b hl (fun e => hb (Option.some.inj e))

section
variable {w w' : World} {g : Nat}
theorem Rw.upd {k : IntKind} {B n c : Nat} {ao : Option Addr} {t : TypeId} {xs : List Nat} {vs : List Value} (h : Rw k B w ao n c xs) (hb : Blk w g t vs) (hx : NoInt k vs) (hu : Upd g w w') : Rw k B w' ao n c xs := by
  obtain ⟨h1, h2, h3, h4, h5⟩ := h
  refine ⟨h1, h2, h3, h4, ?_⟩
  rcases h5 with h5 | ⟨b, off, rfl, h5⟩
  · exact Or.inl h5
  · by_cases hn : ints k xs = []
    · exact Or.inl hn
    · have hlen : 0 < (ints k xs).length := List.length_pos_iff.2 hn
      have h6 := h5 0 hlen
      have hlt : b < w.heap.size := World.block_lt_of_cell? w _ h6
      have hne : b ≠ g := by
        rintro rfl
        rw [Nat.add_zero, ints_get] at h6
        have hc := cell_of_row w b off _ t (0, 0) hb
        rw [h6] at hc
        have hc' : vs[off]? = some (Value.int k ((xs[0]'(by simpa [ints] using hlen) : Nat) : Int)) := by simpa using hc.symm
        exact hx _ (List.mem_of_getElem? hc') _ rfl
      refine Or.inr ⟨b, off, rfl, fun j' hj => ?_⟩
      rw [World.cell?_of_block (w := w) (hu.block hne hlt)]
      exact h5 j' hj
theorem Blk.upd {r : Nat} {t : TypeId} {vs : List Value} (h : Blk w r t vs) (hne : r ≠ g) (hu : Upd g w w') : Blk w' r t vs := by
  unfold Blk; rw [hu.block hne h.lt]; exact h
theorem below_upd {B : Nat} {u : World} (h : Below B u w) (hg : B ≤ g) (hl : g < w.heap.size) (hu : Upd g w w') : Below B u w' := h.grown hu.1 (by omega) (fun k hk => by cases hk; exact hg)
theorem Own.upd {base c : Nat} {ao : Option Addr} {t : TypeId} {vs : List Value} (h : Own base w ao c) (hu : Upd g w w') (hg : g < base) : Own base w' ao c := by
  rcases h with h | ⟨b, off, cs, e, rfl, hb, hh, hs⟩
  · exact Or.inl h
  · exact Or.inr ⟨b, off, cs, e, rfl, hb, by rw [hu.block (by omega) (lt_of_block hh)]; exact hh, hs⟩
end

section
variable {K : Nat} {w w' : World} {s : Bool} {ao : Option Addr} {n c g : Nat} {t : TypeId} {vs : List Value} {z : Int}
theorem Za.upd (h : Za K w s ao n c z) (hb : Blk w g t vs) (hx : ∀ k, NoInt k vs) (hu : Upd g w w') : Za K w' s ao n c z := ⟨h.1, let ⟨xs, h2, h3⟩ := h.2; ⟨xs, h2.upd hb (hx _) hu, h3⟩⟩
theorem Zn.upd (h : Zn K w s ao n c z) (hb : Blk w g t vs) (hx : ∀ k, NoInt k vs) (hu : Upd g w w') : Zn K w' s ao n c z := ⟨h.1, h.2.1.upd hb (hx _) hu, h.2.2⟩
theorem Rn.upd (h : Rn K w ao n c s z) (hb : Blk w g t vs) (hx : ∀ k, NoInt k vs) (hu : Upd g w w') : Rn K w' ao n c s z := ⟨h.1, h.2.1.upd hb (hx _) hu, h.2.2⟩
end

theorem mk_alloc (w : World) (cs : List Value) (T : TypeId) {N : Nat} (h : w.heap.size = N) :
    ∃ w' g, w' = w.alloc (.cells cs.toArray T) ∧ g = N ∧ Blk w' g T cs ∧ Below w.heap.size w w' ∧ w.heap.size ≤ g ∧ w'.heap.size = N + 1 := by
  subst h
  exact ⟨_, _, rfl, rfl, Blk.new w T cs, alloc_ext _ _, Nat.le_refl _, World.size_alloc _ _⟩

theorem mk_set2 {w : World} {g : Nat} {t : TypeId} {x y : Value} (h : Blk w g t [x, y]) (p q : Value) {N : Nat} (hs : w.heap.size = N) :
    ∃ w', w' = (w.setCell ⟨g, 0, none⟩ p).setCell ⟨g, 1, none⟩ q ∧ Upd g w w' ∧ Blk w' g t [p, q] ∧ w'.heap.size = N :=
  ⟨_, rfl, Upd.two _ _ _ _, set_two h p q, (Upd.two _ _ _ _).2.trans hs⟩

theorem set_four {w : World} {g : Nat} {t : TypeId} {x y z u : Value} (h : Blk w g t [x, y, z, u]) (p q r s : Value) : Blk ((((w.setCell ⟨g, 0, none⟩ p).setCell ⟨g, 1, none⟩ q).setCell ⟨g, 2, none⟩ r).setCell ⟨g, 3, none⟩ s) g t [p, q, r, s] :=
  (((h.set 0 p).set 1 q).set 2 r).set 3 s

theorem mk_set4 {w : World} {g : Nat} {t : TypeId} {x y z u : Value} (h : Blk w g t [x, y, z, u]) (p q r s : Value) {N : Nat} (hs : w.heap.size = N) :
    ∃ w', w' = (((w.setCell ⟨g, 0, none⟩ p).setCell ⟨g, 1, none⟩ q).setCell ⟨g, 2, none⟩ r).setCell ⟨g, 3, none⟩ s ∧ Upd g w w' ∧ Blk w' g t [p, q, r, s] ∧ w'.heap.size = N :=
  ⟨_, rfl, Upd.four _ _ _ _ _ _, set_four h p q r s, (Upd.four _ _ _ _ _ _).2.trans hs⟩

theorem mk_cell {w : World} {g : Nat} {t : TypeId} {vs : List Value} (h : Blk w g t vs) (j : Nat) (p : Value) (vs' : List Value) (hv : vs.set j p = vs') {N : Nat} (hs : w.heap.size = N) :
    ∃ w', w' = w.setCell ⟨g, j, none⟩ p ∧ Upd g w w' ∧ Blk w' g t vs' ∧ w'.heap.size = N :=
  ⟨_, rfl, Upd.one _ _ _ _, hv ▸ h.set j p, (Upd.one _ _ _ _).2.trans hs⟩

theorem mk_base (w : World) : ∃ B, B = w.heap.size ∧ Below B w w := ⟨_, rfl, Below.refl _ _⟩

theorem Blk.ne {w : World} {g r : Nat} {t : TypeId} {vs : List Value} (h : Blk w g t vs) (hr : w.heap.size ≤ r) : Hid (g ≠ r) := hid (by have := h.lt; omega)
theorem below_ge {u w : World} {g : Nat} (h : Below u.heap.size u w) (hg : w.heap.size ≤ g) : Hid (u.heap.size ≤ g) := hid (Nat.le_trans h.size hg)
theorem hid_ne {a b : Nat} (h : Hid (a ≠ b)) : Hid (b ≠ a) := hid (Ne.symm h.out)

theorem cells2 {w : World} {b : Nat} {t : TypeId} {x y : Value} (h : Blk w b t [x, y]) : w.cell? ⟨b, 0, none⟩ = some x ∧ w.cell? ⟨b, 1, none⟩ = some y ∧ w.frozen? ⟨b, 0, none⟩ = false ∧ w.frozen? ⟨b, 1, none⟩ = false := two_cells h
theorem cells4 {w : World} {b : Nat} {t : TypeId} {x y z u : Value} (h : Blk w b t [x, y, z, u]) : w.cell? ⟨b, 0, none⟩ = some x ∧ w.cell? ⟨b, 1, none⟩ = some y ∧ w.cell? ⟨b, 2, none⟩ = some z ∧ w.cell? ⟨b, 3, none⟩ = some u ∧
    w.frozen? ⟨b, 0, none⟩ = false ∧ w.frozen? ⟨b, 1, none⟩ = false ∧ w.frozen? ⟨b, 2, none⟩ = false ∧ w.frozen? ⟨b, 3, none⟩ = false :=
  ⟨h.cell 0 (by simp), h.cell 1 (by simp), h.cell 2 (by simp), h.cell 3 (by simp), h.free 0, h.free 1, h.free 2, h.free 3⟩

/-- Nought, as it stands in a box that nobody has written. -/
theorem Zn.zero (w : World) : Zn 0 w false none 0 0 0 := ⟨Nat.le_refl _, Rw.nil _ _ _, rfl⟩
theorem Rn.zero (w : World) : Rn 0 w none 0 0 false 0 := ⟨Nat.le_refl _, Rw.nil _ _ _, rfl⟩

end Go.Proofs.Ytkcagkcphobmfaa
