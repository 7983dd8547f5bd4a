/-
  ROWS OF NUMBERS that a call writes out ('f(a, b, c)').
-/
import Derived.Test.YtkcagkcphobmfaaZs
set_option linter.unusedVariables false
set_option linter.unusedSimpArgs false
namespace Go.Proofs.Ytkcagkcphobmfaa
open Go.RowKit

section
variable {K : Nat} {w : World} {g : Nat} {t : TypeId}
theorem in_blk {zs : List Int} {vs : List Value} (hb : Blk w g t vs) (hl : vs.length = zs.length * 2)
    (hv : ∀ j (h : j < zs.length), ∃ s a m d, vs[j * 2]? = some (.bool s) ∧ vs[j * 2 + 1]? = some (.slice a m d) ∧ Za K w s a m d zs[j]) : In K w (some ⟨g, 0, none⟩) zs.length zs.length zs := by
  refine ⟨rfl, Nat.le_refl _, fun j hj => ?_⟩
  obtain ⟨s, a, m, d, h1, h2, h3⟩ := hv j hj
  obtain ⟨l1, e1⟩ := List.getElem?_eq_some_iff.1 h1
  obtain ⟨l2, e2⟩ := List.getElem?_eq_some_iff.1 h2
  exact ⟨g, 0, s, a, m, d, rfl, by rw [Nat.zero_add, hb.cell _ l1, e1], by rw [Nat.zero_add, hb.cell _ l2, e2], h3⟩

variable {s0 s1 s2 s3 : Bool} {a0 a1 a2 a3 : Option Addr} {n0 n1 n2 n3 c0 c1 c2 c3 : Nat} {z0 z1 z2 z3 : Int}
theorem in_blk1 (hb : Blk w g t [.bool s0, .slice a0 n0 c0]) (h0 : Za K w s0 a0 n0 c0 z0) : In K w (some ⟨g, 0, none⟩) 1 1 [z0] :=
  in_blk hb rfl fun j hj => match j, hj with
    | 0, _ => ⟨_, _, _, _, rfl, rfl, h0⟩
theorem in_blk2 (hb : Blk w g t [.bool s0, .slice a0 n0 c0, .bool s1, .slice a1 n1 c1]) (h0 : Za K w s0 a0 n0 c0 z0) (h1 : Za K w s1 a1 n1 c1 z1) : In K w (some ⟨g, 0, none⟩) 2 2 [z0, z1] :=
  in_blk hb rfl fun j hj => match j, hj with
    | 0, _ => ⟨_, _, _, _, rfl, rfl, h0⟩
    | 1, _ => ⟨_, _, _, _, rfl, rfl, h1⟩
theorem in_blk3 (hb : Blk w g t [.bool s0, .slice a0 n0 c0, .bool s1, .slice a1 n1 c1, .bool s2, .slice a2 n2 c2]) (h0 : Za K w s0 a0 n0 c0 z0) (h1 : Za K w s1 a1 n1 c1 z1) (h2 : Za K w s2 a2 n2 c2 z2) : In K w (some ⟨g, 0, none⟩) 3 3 [z0, z1, z2] :=
  in_blk hb rfl fun j hj => match j, hj with
    | 0, _ => ⟨_, _, _, _, rfl, rfl, h0⟩
    | 1, _ => ⟨_, _, _, _, rfl, rfl, h1⟩
    | 2, _ => ⟨_, _, _, _, rfl, rfl, h2⟩
theorem in_blk4 (hb : Blk w g t [.bool s0, .slice a0 n0 c0, .bool s1, .slice a1 n1 c1, .bool s2, .slice a2 n2 c2, .bool s3, .slice a3 n3 c3]) (h0 : Za K w s0 a0 n0 c0 z0) (h1 : Za K w s1 a1 n1 c1 z1) (h2 : Za K w s2 a2 n2 c2 z2) (h3 : Za K w s3 a3 n3 c3 z3) : In K w (some ⟨g, 0, none⟩) 4 4 [z0, z1, z2, z3] :=
  in_blk hb rfl fun j hj => match j, hj with
    | 0, _ => ⟨_, _, _, _, rfl, rfl, h0⟩
    | 1, _ => ⟨_, _, _, _, rfl, rfl, h1⟩
    | 2, _ => ⟨_, _, _, _, rfl, rfl, h2⟩
    | 3, _ => ⟨_, _, _, _, rfl, rfl, h3⟩
end

/-- The value is a row of n numbers in memory of its own. -/
def PV.inn (K n : Nat) (zs : List Int) : PV := ⟨fun v w => ∃ g, v = .slice (some ⟨g, 0, none⟩) n n ∧ In K w (some ⟨g, 0, none⟩) n n zs, fun v w w' hb ⟨g, e, h⟩ => ⟨g, e, h.ext hb⟩⟩

/-- A row written out in the step of a region. -/
theorem new_in {w : World} {t : TypeId} {vs : List Value} {n K : Nat} {zs : List Int} (h : ∀ w' g, Below w.heap.size w w' → Blk w' g t vs → In K w' (some ⟨g, 0, none⟩) n n zs) :
    ∃ g, (Value.slice (some ⟨w.heap.size, 0, none⟩) n n) = .slice (some ⟨g, 0, none⟩) n n ∧ In K (w.alloc (.cells vs.toArray t)) (some ⟨g, 0, none⟩) n n zs :=
  ⟨_, rfl, h _ _ (alloc_ext _ _) (Blk.new w t vs)⟩

theorem gcdL_1 (a : Int) : gcdL [a] = a.natAbs := by simp [gcdL]
theorem gcdL_2 (a b : Int) : gcdL [a, b] = Nat.gcd a.natAbs b.natAbs := by simp [gcdL]
theorem gcdL_3 (a b c : Int) : gcdL [a, b, c] = Nat.gcd (Nat.gcd a.natAbs b.natAbs) c.natAbs := by simp [gcdL]
theorem gcdL_4 (a b c d : Int) : gcdL [a, b, c, d] = Nat.gcd (Nat.gcd (Nat.gcd a.natAbs b.natAbs) c.natAbs) d.natAbs := by simp [gcdL]

end Go.Proofs.Ytkcagkcphobmfaa
