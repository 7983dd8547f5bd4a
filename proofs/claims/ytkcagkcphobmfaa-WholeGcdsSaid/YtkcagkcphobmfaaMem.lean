/-
  MEMORY: rows of integers in memory ('Rw'), what a call has made itself ('Own', 'Blk'), and the walk's laws for make and append in these words. No condition; nothing of the program.
-/
import Derived.Test.YtkcagkcphobmfaaNum
import Derived.WalkKit
import Derived.WalkSpells
import Derived.WalkLawsBesides
import Derived.Laws.CopyOwn
set_option linter.unusedVariables false
set_option linter.unusedSimpArgs false
namespace Go.Proofs.Ytkcagkcphobmfaa
open Go.RowKit

theorem hid {p : Prop} (h : p) : Hid p := h

theorem ret_int {k : IntKind} {a b : Int} (h : a = b) : Ending.returned (.int k a) = .returned (.int k b) := by rw [h]
theorem ret_bool {a b : Bool} (h : a = b) : Ending.returned (.bool a) = .returned (.bool b) := by rw [h]

theorem ext_trans {a b c : World} (h : Below a.heap.size a b) (k : Below b.heap.size b c) : Below a.heap.size a c := h.trans (k.mono h.size)

theorem ext_drewN {B : Nat} {a w : World} (h : Below B a w) (n : Nat) : Below B a (w.drewN n) := h.trans ⟨rfl, rfl, rfl, Nat.le_refl _, fun _ _ => rfl⟩

theorem wrap_u64 (n : Int) : IntKind.u64.wrap n = n % 18446744073709551616 := by simp [IntKind.wrap, IntKind.bits, IntKind.signed]
theorem wrap_u32 (n : Int) : IntKind.u32.wrap n = n % 4294967296 := by simp [IntKind.wrap, IntKind.bits, IntKind.signed]
theorem wrap_u64_in (n : Nat) (h : n < 18446744073709551616) : IntKind.u64.wrap (n : Int) = n := by rw [wrap_u64]; omega

/-- Two halves of 64 bits joined. -/
theorem or_join (r x : Nat) (hr : r < 4294967296) (hx : x < 4294967296) : bits BinOp.or IntKind.u64 ((r : Int) * 4294967296) (x : Int) = ((r * 4294967296 + x : Nat) : Int) := by
  have h := bits_or_u64_nat (r * 4294967296) x (by omega) (by omega)
  have h2 := Nat.two_pow_add_eq_or_of_lt (i := 32) (show x < 2 ^ 32 from hx) r
  rw [Nat.mul_comm, show (2 : Nat) ^ 32 = 4294967296 from rfl] at h2
  rw [h2, ← h]
  simp

theorem wraps_u32 (n : Int) (h0 : 0 ≤ n) (h1 : n < 2 ^ 32) : IntKind.u32.wrap n = n := by rw [wrap_u32]; omega

/-- A limb moved up by less than 32 places, in two halves; the lower one laid over what came up from below. -/
theorem shl_parts (x ss o : Nat) (hx : x < 4294967296) (hs : ss < 32) (ho : o < 2 ^ ss) : ∃ v t hi : Nat, IntKind.u64.wrap ((x : Int) * 2 ^ ss) = (v : Int) ∧ (v : Int) / 4294967296 = (hi : Int) ∧
    bits BinOp.or IntKind.u32 (o : Int) ((v : Int) % 4294967296) = (t : Int) ∧ t < 4294967296 ∧ hi < 4294967296 ∧ hi < 2 ^ ss ∧ v < 18446744073709551616 ∧ t + 4294967296 * hi = o + x * 2 ^ ss := by
  have hp : 2 ^ ss ≤ 2147483648 := Nat.pow_le_pow_right (n := 2) (i := ss) (j := 31) (by decide) (by omega)
  have hpos := Nat.two_pow_pos ss
  have hv : x * 2 ^ ss < 4294967296 * 2 ^ ss := Nat.mul_lt_mul_of_pos_right hx hpos
  have hsplit : 2 ^ (32 - ss) * 2 ^ ss = 4294967296 := by rw [← Nat.pow_add, show 32 - ss + ss = 32 by omega]
  have hlo : (x * 2 ^ ss) % 4294967296 = 2 ^ ss * (x % 2 ^ (32 - ss)) := by rw [← hsplit, Nat.mul_mod_mul_right, Nat.mul_comm]
  have hc : x % 2 ^ (32 - ss) + 1 ≤ 2 ^ (32 - ss) := Nat.mod_lt _ (Nat.two_pow_pos _)
  have hlt : 2 ^ ss * (x % 2 ^ (32 - ss)) + 2 ^ ss ≤ 4294967296 := by
    have := Nat.mul_le_mul_left (2 ^ ss) hc
    rw [Nat.mul_add, Nat.mul_one, Nat.mul_comm _ (2 ^ (32 - ss)), hsplit] at this
    exact this
  have hor := Nat.two_pow_add_eq_or_of_lt ho (x % 2 ^ (32 - ss))
  have hdiv : x * 2 ^ ss / 4294967296 < 2 ^ ss := Nat.div_lt_of_lt_mul hv
  have hcast : ((x * 2 ^ ss : Nat) : Int) = (x : Int) * 2 ^ ss := by rw [Int.natCast_mul, Int.natCast_pow]; rfl
  have hob := (bits_nat .u32 32 (by decide) wraps_u32 o (x * 2 ^ ss % 4294967296) (by omega) (Nat.mod_lt _ (by decide))).2
  rw [hlo, Nat.or_comm, ← hor] at hob
  refine ⟨x * 2 ^ ss, 2 ^ ss * (x % 2 ^ (32 - ss)) + o, x * 2 ^ ss / 4294967296, ?_, rfl, ?_, by omega, by omega, hdiv, by omega, ?_⟩
  · rw [← hcast]; exact wrap_u64_in _ (by omega)
  · rw [← hob, ← hlo]; rfl
  · rw [← hlo]; omega

/-- Two limbs moved down by less than 32 places: the lower limb of it. -/
theorem shr_parts (x y ss : Nat) (hx : x < 4294967296) (hy : y < 4294967296) (hs : ss < 32) : ∃ q : Nat, bits BinOp.or IntKind.u64 (x : Int) ((y : Int) * 4294967296) / 2 ^ ss % 4294967296 = (q : Int) ∧ q < 4294967296 ∧
    2 ^ ss * q + x % 2 ^ ss = x + B32 * (y % 2 ^ ss) := by
  have hpos := Nat.two_pow_pos ss
  have hsplit : 2 ^ (32 - ss) * 2 ^ ss = 4294967296 := by rw [← Nat.pow_add, show 32 - ss + ss = 32 by omega]
  have hor := bits_or_u64_nat x (y * 4294967296) (by omega) (by omega)
  have h2 := Nat.two_pow_add_eq_or_of_lt (i := 32) (show x < 2 ^ 32 from hx) y
  rw [Nat.mul_comm, show (2 : Nat) ^ 32 = 4294967296 from rfl, Nat.or_comm] at h2
  rw [← h2] at hor
  have hcast : ((y * 4294967296 : Nat) : Int) = (y : Int) * 4294967296 := by omega
  rw [hcast] at hor
  rw [hor]
  generalize hS : 2 ^ ss = S at *
  generalize hT : 2 ^ (32 - ss) = T at *
  have hTpos : 0 < T := by rw [← hT]; exact Nat.two_pow_pos _
  have hdiv : (y * 4294967296 + x) / S = x / S + T * y := by
    rw [← hsplit, Nat.add_comm, show y * (T * S) = S * (T * y) by grind, Nat.add_mul_div_left _ _ hpos]
  have hxS : x / S < T := by rw [Nat.div_lt_iff_lt_mul hpos, hsplit]; exact hx
  have hyS : y % S < S := Nat.mod_lt _ hpos
  have hlt : x / S + T * (y % S) < 4294967296 := by
    have := Nat.mul_le_mul_left T (show y % S + 1 ≤ S from hyS)
    rw [Nat.mul_add, hsplit] at this
    omega
  have hmod : (x / S + T * y) % 4294967296 = x / S + T * (y % S) := by
    have h3 : x / S + T * y = x / S + T * (y % S) + 4294967296 * (y / S) := by
      rw [← hsplit]
      have := Nat.mod_add_div y S
      have h4 : T * y = T * (y % S + S * (y / S)) := by rw [this]
      rw [h4]; grind
    rw [h3, Nat.add_mul_mod_self_left, Nat.mod_eq_of_lt hlt]
  refine ⟨x / S + T * (y % S), ?_, hlt, ?_⟩
  · have e : ((2 : Int) ^ ss) = ((S : Nat) : Int) := by rw [← hS]; simp
    rw [e, ← hmod, ← hdiv]; rfl
  · have h5 := Nat.mod_add_div x S
    have h6 : S * (x / S + T * (y % S)) = S * (x / S) + 4294967296 * (y % S) := by rw [← hsplit]; grind
    unfold B32
    omega

theorem shr_parts0 (x ss : Nat) (hx : x < 4294967296) : ∃ q : Nat, (x : Int) / 2 ^ ss % 4294967296 = (q : Int) ∧ q < 4294967296 ∧ 2 ^ ss * q + x % 2 ^ ss = x + B32 * (0 % 2 ^ ss) := by
  have hlt : x / 2 ^ ss ≤ x := Nat.div_le_self _ _
  refine ⟨x / 2 ^ ss, ?_, by omega, ?_⟩
  · have e : ((2 : Int) ^ ss) = ((2 ^ ss : Nat) : Int) := by simp
    rw [e, ← Int.natCast_ediv]
    generalize x / 2 ^ ss = q at *
    omega
  · rw [Nat.zero_mod, Nat.mul_zero]
    have := Nat.mod_add_div x (2 ^ ss)
    omega

/-- One digit less one digit less a borrow, as 64 bits have it. -/
theorem sub_wrap (x cy y : Nat) (hx : x < 4294967296) (hc : cy ≤ 1) (hy : y < 4294967296) : ∃ d b : Nat, d < B32 ∧ b ≤ 1 ∧ IntKind.u64.wrap (IntKind.u64.wrap ((x : Int) - cy) - y) / 9223372036854775808 = (b : Int) ∧
    IntKind.u64.wrap (IntKind.u64.wrap ((x : Int) - cy) - y) % 4294967296 = (d : Int) ∧ d + cy + y = x + B32 * b := by
  rw [wrap_u64, wrap_u64]
  by_cases h : cy + y ≤ x
  · exact ⟨x - cy - y, 0, by unfold B32; omega, by omega, by omega, by omega, by omega⟩
  · exact ⟨x + 4294967296 - cy - y, 1, by unfold B32; omega, by omega, by omega, by omega, by unfold B32; omega⟩

/-- The same, the borrow last. -/
theorem sub_wrap2 (x lo bw : Nat) (hx : x < 4294967296) (hl : lo < 4294967296) (hb : bw ≤ 1) : ∃ d b : Nat, d < B32 ∧ b ≤ 1 ∧ IntKind.u64.wrap (IntKind.u64.wrap ((x : Int) - lo) - bw) / 9223372036854775808 = (b : Int) ∧
    IntKind.u64.wrap (IntKind.u64.wrap ((x : Int) - lo) - bw) % 4294967296 = (d : Int) ∧ d + lo + bw = x + B32 * b := by
  rw [wrap_u64, wrap_u64]
  by_cases h : lo + bw ≤ x
  · exact ⟨x - lo - bw, 0, by unfold B32; omega, by omega, by omega, by omega, by omega⟩
  · exact ⟨x + 4294967296 - lo - bw, 1, by unfold B32; omega, by omega, by omega, by omega, by unfold B32; omega⟩

/-- The top limb less a carry and a borrow: no borrow is left. -/
theorem top_wrap_no (x cy bw : Nat) (hx : x < 4294967296) (h : cy + bw ≤ x) : IntKind.u64.wrap (IntKind.u64.wrap ((x : Int) - cy) - bw) = ((x - cy - bw : Nat) : Int) := by
  rw [wrap_u64, wrap_u64]; omega

/-- .. a borrow is left. -/
theorem top_wrap_yes (x cy bw : Nat) (hx : x < 4294967296) (hc : cy < 4294967296) (hb : bw ≤ 1) (h : x < cy + bw) : ∃ t tl : Nat, IntKind.u64.wrap (IntKind.u64.wrap ((x : Int) - cy) - bw) = (t : Int) ∧ (t : Int) / 9223372036854775808 = 1 ∧
    (t : Int) % 4294967296 = (tl : Int) ∧ tl < 4294967296 ∧ tl + cy + bw = x + 4294967296 := by
  refine ⟨18446744073709551616 + x - cy - bw, x + 4294967296 - cy - bw, ?_, by omega, by omega, by omega, by omega⟩
  rw [wrap_u64, wrap_u64]; omega

theorem sub_wrap0 (x cy : Nat) (hx : x < 4294967296) (hc : cy ≤ 1) : ∃ d b : Nat, d < B32 ∧ b ≤ 1 ∧ IntKind.u64.wrap ((x : Int) - cy) / 9223372036854775808 = (b : Int) ∧
    IntKind.u64.wrap ((x : Int) - cy) % 4294967296 = (d : Int) ∧ d + cy + 0 = x + B32 * b := by
  rw [wrap_u64]
  by_cases h : cy ≤ x
  · exact ⟨x - cy, 0, by unfold B32; omega, by omega, by omega, by omega, by omega⟩
  · exact ⟨x + 4294967296 - cy, 1, by unfold B32; omega, by omega, by omega, by omega, by unfold B32; omega⟩

/-- The cells vs lie at the address ao (which may be none if there are none). -/
def CellsAt (w : World) (ao : Option Addr) (vs : List Value) : Prop :=
  vs = [] ∨ ∃ b off, ao = some ⟨b, off, none⟩ ∧ ∀ j (h : j < vs.length), w.cell? ⟨b, off + j, none⟩ = some vs[j]

theorem CellsAt.ext {w w' : World} {ao : Option Addr} {vs : List Value} (h : CellsAt w ao vs) (he : Below w.heap.size w w') : CellsAt w' ao vs := by
  rcases h with h | ⟨b, off, rfl, h⟩
  · exact Or.inl h
  · refine Or.inr ⟨b, off, rfl, fun j hj => ?_⟩
    have := h j hj
    rw [he.cell (World.block_lt_of_cell? w _ this)]; exact this

theorem CellsAt.block {w : World} {b off : Nat} {vs : List Value} (h : CellsAt w (some ⟨b, off, none⟩) vs) (hne : vs ≠ []) : ∀ j (h : j < vs.length), w.cell? ⟨b, off + j, none⟩ = some vs[j] := by
  rcases h with h | ⟨b', off', he, h⟩
  · exact absurd h hne
  · cases he; exact h

/-- Integers of kind k as cells. -/
def ints (k : IntKind) (xs : List Nat) : List Value := xs.map fun x : Nat => Value.int k (x : Int)

theorem ints_length (k : IntKind) (xs : List Nat) : (ints k xs).length = xs.length := by simp [ints]
theorem ints_get (k : IntKind) (xs : List Nat) (j : Nat) (h : j < (ints k xs).length) : (ints k xs)[j] = Value.int k ((xs[j]'(by simpa [ints] using h) : Nat) : Int) := by simp [ints]
theorem ints_one (k : IntKind) (xs : List Nat) : ∀ u ∈ ints k xs, u.oneCell' = true := by
  intro u hu
  obtain ⟨_, _, rfl⟩ := List.mem_map.1 hu
  rfl

/-- A SLICE OF INTEGERS: kind k, each below B, n of them, room for c; read in the world w they are xs. -/
def Rw (k : IntKind) (B : Nat) (w : World) (ao : Option Addr) (n c : Nat) (xs : List Nat) : Prop :=
  xs.length = n ∧ n ≤ c ∧ (ao = none → c = 0) ∧ (∀ x ∈ xs, x < B) ∧ CellsAt w ao (ints k xs)

section
variable {k : IntKind} {B : Nat} {w w' : World} {ao : Option Addr} {n c : Nat} {xs : List Nat}

theorem Rw.len (h : Rw k B w ao n c xs) : xs.length = n := h.1
theorem Rw.le (h : Rw k B w ao n c xs) : n ≤ c := h.2.1
theorem Rw.lt (h : Rw k B w ao n c xs) : ∀ x ∈ xs, x < B := h.2.2.2.1
theorem Rw.cells (h : Rw k B w ao n c xs) : CellsAt w ao (ints k xs) := h.2.2.2.2

theorem Rw.ext (h : Rw k B w ao n c xs) (he : Below w.heap.size w w') : Rw k B w' ao n c xs := ⟨h.1, h.2.1, h.2.2.1, h.2.2.2.1, h.2.2.2.2.ext he⟩

theorem Rw.nil (k : IntKind) (B : Nat) (w : World) : Rw k B w none 0 0 [] := ⟨rfl, Nat.le_refl _, fun _ => rfl, by simp, Or.inl rfl⟩

/-- THE ELEMENT AT j. -/
theorem Rw.at (h : Rw k B w ao n c xs) {j : Nat} (hj : j < n) : ∃ b off x, ao = some ⟨b, off, none⟩ ∧ xs[j]? = some x ∧ x < B ∧ w.cell? ⟨b, off + j, none⟩ = some (.int k (x : Int)) := by
  obtain ⟨hl, _, _, hB, hc⟩ := h
  subst hl
  rcases hc with hc | ⟨b, off, rfl, hc⟩
  · simp [ints] at hc; subst hc; simp at hj
  · refine ⟨b, off, xs[j], rfl, by simp [hj], hB _ (List.getElem_mem _), ?_⟩
    have := hc j (by simpa [ints] using hj)
    rwa [ints_get] at this

/-- The same with the address known. -/
theorem Rw.cell {b off : Nat} (h : Rw k B w (some ⟨b, off, none⟩) n c xs) {j : Nat} (hj : j < n) : ∃ x, xs[j]? = some x ∧ x < B ∧ w.cell? ⟨b, off + j, none⟩ = some (.int k (x : Int)) := by
  obtain ⟨b', off', x, he, h1, h2, h3⟩ := h.at hj
  cases he
  exact ⟨x, h1, h2, h3⟩

/-- Its head. -/
theorem Rw.take (h : Rw k B w ao n c xs) {m : Nat} (hm : m ≤ n) : Rw k B w ao m c (xs.take m) := by
  obtain ⟨hl, hc, hn, hB, hcs⟩ := h
  refine ⟨by simp; omega, by omega, hn, fun x hx => hB x (List.mem_of_mem_take hx), ?_⟩
  rcases hcs with hcs | ⟨b, off, rfl, hcs⟩
  · simp [ints] at hcs; subst hcs; exact Or.inl (by simp [ints])
  · refine Or.inr ⟨b, off, rfl, fun j hj => ?_⟩
    have hj' : j < xs.length := by simp [ints] at hj; omega
    have := hcs j (by simpa [ints] using hj')
    rw [ints_get] at this ⊢
    simpa using this

/-- It reads the same where its block is the same. -/
theorem Rw.same {b off : Nat} (h : Rw k B w (some ⟨b, off, none⟩) n c xs) (hb : w'.heap[b]? = w.heap[b]?) : Rw k B w' (some ⟨b, off, none⟩) n c xs := by
  refine ⟨h.1, h.2.1, h.2.2.1, h.2.2.2.1, ?_⟩
  rcases h.2.2.2.2 with hc | ⟨b', off', he, hc⟩
  · exact Or.inl hc
  · cases he
    refine Or.inr ⟨b, off, rfl, fun j hj => ?_⟩
    rw [World.cell?_of_block hb]; exact hc j hj
end

/-- What lies in the room of a slice, to its capacity, is the call's own: a block from base on, no cell of which is frozen. -/
def Own (base : Nat) (w : World) (ao : Option Addr) (c : Nat) : Prop :=
  c = 0 ∨ ∃ b off cs e, ao = some ⟨b, off, none⟩ ∧ base ≤ b ∧ w.heap[b]? = some (.cells cs e (0, 0)) ∧ off + c ≤ cs.size ∧ c ≤ 9223372036854775807

theorem Own.nil (base : Nat) (w : World) (ao : Option Addr) : Own base w ao 0 := Or.inl rfl

theorem Own.ext {base : Nat} {w w' : World} {ao : Option Addr} {c : Nat} (h : Own base w ao c) (he : Below w.heap.size w w') : Own base w' ao c := by
  rcases h with h | ⟨b, off, cs, e, rfl, hb, hh, hs⟩
  · exact Or.inl h
  · exact Or.inr ⟨b, off, cs, e, rfl, hb, by rw [he.block b (lt_of_block hh)]; exact hh, hs⟩

theorem Own.mono {base base' : Nat} {w : World} {ao : Option Addr} {c : Nat} (h : Own base w ao c) (hb : base' ≤ base) : Own base' w ao c := by
  rcases h with h | ⟨b, off, cs, e, rfl, hb', hh, hs⟩
  · exact Or.inl h
  · exact Or.inr ⟨b, off, cs, e, rfl, by omega, hh, hs⟩

/-- A row of the call's own, made from base on, stays while a row below base grows or is written. -/
theorem Rw.grown {k : IntKind} {B : Nat} {w w' : World} {ao : Option Addr} {n c base : Nat} {xs : List Nat} {row : Option Nat} (h : Rw k B w ao n c xs) (ho : Own base w ao c) (hg : w.grownBy w' row) (hrow : ∀ j, row = some j → j < base) : Rw k B w' ao n c xs := by
  obtain ⟨h1, h2, h3, h4, h5⟩ := h
  refine ⟨h1, h2, h3, h4, ?_⟩
  rcases ho with ho | ⟨b, off, cs, e, rfl, hb, hh, hs⟩
  · refine Or.inl ?_
    have : xs = [] := List.eq_nil_of_length_eq_zero (by omega)
    rw [this]; rfl
  · rcases h5 with h5 | ⟨b', off', he, h5⟩
    · exact Or.inl h5
    · cases he
      refine Or.inr ⟨b, off, rfl, fun j hj => ?_⟩
      rw [World.cell?_of_block (hg.block b (lt_of_block hh) (fun e => by have := hrow b e.symm; omega))]
      exact h5 j hj

theorem Own.le {base : Nat} {w : World} {ao : Option Addr} {c : Nat} (h : Own base w ao c) : c ≤ 9223372036854775807 := by
  rcases h with h | ⟨_, _, _, _, _, _, _, _, h⟩ <;> omega

theorem Own.lt {base : Nat} {w : World} {ao : Option Addr} {c : Nat} (h : Own base w ao c) : ∀ x, c ≠ 0 → ao = some x → x.block < w.heap.size := by
  rcases h with h | ⟨b, off, cs, e, rfl, _, h, _, _⟩
  · intro x hc; exact absurd h hc
  · rintro x _ ⟨⟩; exact lt_of_block h

/-- A store keeps what is owned owned. -/
theorem Own.set {base : Nat} {w : World} {ao : Option Addr} {c g i : Nat} {v : Value} (h : Own base w ao c) : Own base (w.setCell ⟨g, i, none⟩ v) ao c := by
  rcases h with h | ⟨b, off, cs, e, rfl, hb, hh, hs, hm⟩
  · exact Or.inl h
  · by_cases hg : g = b
    · subst hg
      exact Or.inr ⟨g, off, _, e, rfl, hb, heap_setCell_same w g i cs e _ hh, by rw [Array.size_setIfInBounds]; exact hs, hm⟩
    · exact Or.inr ⟨b, off, cs, e, rfl, hb, by rw [heap_setCell_other w _ b v (fun h => hg h.symm)]; exact hh, hs, hm⟩

/-- A row of the call's own, made from base on, stays while all from base on stays. -/
theorem Rw.keep {k : IntKind} {B : Nat} {w w' : World} {ao : Option Addr} {n c base : Nat} {xs : List Nat} (h : Rw k B w ao n c xs) (ho : Own base w ao c) (hk : ∀ k, base ≤ k → w'.heap[k]? = w.heap[k]?) : Rw k B w' ao n c xs := by
  obtain ⟨h1, h2, h3, h4, h5⟩ := h
  refine ⟨h1, h2, h3, h4, ?_⟩
  rcases ho with ho | ⟨b, off, cs, e, rfl, hb, hh, hs⟩
  · refine Or.inl ?_
    have : xs = [] := List.eq_nil_of_length_eq_zero (by omega)
    rw [this]; rfl
  · rcases h5 with h5 | ⟨b', off', he, h5⟩
    · exact Or.inl h5
    · cases he
      refine Or.inr ⟨b, off, rfl, fun j hj => ?_⟩
      rw [World.cell?_of_block (hk b hb)]
      exact h5 j hj


theorem grown_set (w : World) (g i : Nat) (v : Value) : w.grownBy (w.setCell ⟨g, i, none⟩ v) (some g) :=
  ⟨rfl, rfl, rfl, by simp, fun k _ hne => heap_setCell_other w _ k v (fun e => hne (by rw [e]))⟩

/-- A row of the call's own stays while an elder block is written. -/
theorem Rw.setElder {k : IntKind} {B : Nat} {w : World} {ao : Option Addr} {n c base g i : Nat} {xs : List Nat} {v : Value} (h : Rw k B w ao n c xs) (ho : Own base w ao c) (hg : g < base) : Rw k B (w.setCell ⟨g, i, none⟩ v) ao n c xs :=
  h.grown ho (grown_set w g i v) (fun j hj => by cases hj; exact hg)

/-- A BLOCK OF THE CALL's OWN, whole. -/
def Blk (w : World) (b : Nat) (e : TypeId) (vs : List Value) : Prop := w.heap[b]? = some (.cells vs.toArray e (0, 0))

section
variable {w w' : World} {b : Nat} {e : TypeId} {vs : List Value}

theorem Blk.lt (h : Blk w b e vs) : b < w.heap.size := lt_of_block h
theorem Blk.cell (h : Blk w b e vs) (j : Nat) (hj : j < vs.length) : w.cell? ⟨b, j, none⟩ = some vs[j] := by
  rw [cell_of_row w b j _ e (0, 0) h]; simp [hj]
theorem Blk.ex (h : Blk w b e vs) (j : Nat) {n : Nat} (hl : vs.length = n) (hj : j < n) : ∃ u, w.cell? ⟨b, j, none⟩ = some u := ⟨_, h.cell j (by omega)⟩
theorem Blk.free (h : Blk w b e vs) (j : Nat) : w.frozen? ⟨b, j, none⟩ = false := frozen_of_row w b j _ e h
theorem Blk.ext (h : Blk w b e vs) (he : Below w.heap.size w w') : Blk w' b e vs := by
  unfold Blk; rw [he.block b h.lt]; exact h
theorem Blk.set (h : Blk w b e vs) (j : Nat) (v : Value) : Blk (w.setCell ⟨b, j, none⟩ v) b e (vs.set j v) := by
  unfold Blk
  rw [heap_setCell_same w b j _ e v h]
  simp
theorem Blk.other (h : Blk w b e vs) {a : Addr} (hne : b ≠ a.block) (v : Value) : Blk (w.setCell a v) b e vs := by
  unfold Blk
  rw [heap_setCell_other w a b v hne]; exact h
theorem Blk.drew (h : Blk w b e vs) : Blk w.drew b e vs := h
theorem Blk.drewN (h : Blk w b e vs) (n : Nat) : Blk (w.drewN n) b e vs := h
theorem Blk.alloc (h : Blk w b e vs) (o : Obj) : Blk (w.alloc o) b e vs := by
  unfold Blk; rw [heap_alloc_old (h := h.lt)]; exact h
theorem Blk.new (w : World) (e : TypeId) (vs : List Value) : Blk (w.alloc (.cells vs.toArray e)) w.heap.size e vs := heap_alloc_new w _

/-- Integers in a block of the call's own are a row. -/
theorem Blk.rw {k : IntKind} {B : Nat} {xs : List Nat} (h : Blk w b e (ints k xs)) (hB : ∀ x ∈ xs, x < B) : Rw k B w (some ⟨b, 0, none⟩) xs.length xs.length xs := by
  refine ⟨rfl, Nat.le_refl _, (fun e => nomatch e), hB, Or.inr ⟨b, 0, rfl, fun j hj => ?_⟩⟩
  rw [Nat.zero_add]; exact h.cell j hj

theorem Blk.own {base : Nat} (h : Blk w b e vs) (hb : base ≤ b) {n : Nat} (hn : n ≤ vs.length) (hmx : n ≤ 9223372036854775807 := by omega) : Own base w (some ⟨b, 0, none⟩) n := Or.inr ⟨b, 0, _, e, rfl, hb, h, by simpa using hn, hmx⟩
end

theorem ints_set (k : IntKind) (xs : List Nat) (j d : Nat) : (ints k xs).set j (.int k (d : Int)) = ints k (xs.set j d) := by simp [ints]
theorem ints_snoc (k : IntKind) (xs : List Nat) (d : Nat) : ints k xs ++ [Value.int k (d : Int)] = ints k (xs ++ [d]) := by simp [ints]
theorem one_int (k : IntKind) (n : Int) : ∀ u ∈ [Value.int k n], u.oneCell' = true := by intro u hu; rw [List.mem_singleton.1 hu]; rfl
theorem mem_snoc_lt {B : Nat} {xs : List Nat} (h : ∀ x ∈ xs, x < B) {d : Nat} (hd : d < B) : ∀ x ∈ xs ++ [d], x < B := by
  intro x hx
  rcases List.mem_append.1 hx with hx | hx
  · exact h x hx
  · rw [List.mem_singleton.1 hx]; exact hd
theorem ints_replicate (k : IntKind) (n : Nat) : ints k (List.replicate n 0) = List.replicate n (.int k 0) := by simp [ints]

/-- What is owned ('ownsRow', the kit's word) is a row, and the call's own to its capacity. -/
theorem own_of_ownsRow {w : World} {base : Nat} {e : TypeId} {k : IntKind} {B : Nat} {v : Value} {xs : List Nat} (h : w.ownsRow base e 1 v xs.length (ints k xs)) (hB : ∀ x ∈ xs, x < B) :
    ∃ ao c, v = .slice ao xs.length c ∧ Rw k B w ao xs.length c xs ∧ Own base w ao c := by
  obtain ⟨_, ⟨rfl, h0⟩ | ⟨g, cap, cur, rfl, hb, hh, hn, hm, hs, ht⟩⟩ := h
  · have : xs = [] := List.eq_nil_of_length_eq_zero h0
    subst this
    exact ⟨none, 0, rfl, Rw.nil k B w, Own.nil _ _ _⟩
  · refine ⟨_, _, rfl, ⟨rfl, hn, (fun e => nomatch e), hB, Or.inr ⟨g, 0, rfl, fun j hj => ?_⟩⟩, Or.inr ⟨g, 0, cur, e, rfl, hb, hh, by omega, hm⟩⟩
    rw [Nat.zero_add, cell_of_row w g j cur e (0, 0) hh, ← Array.getElem?_toList]
    have hj' : j < xs.length := by simpa [ints] using hj
    have h1 : (cur.toList.take (xs.length * 1))[j]? = some ((ints k xs)[j]) := by rw [ht]; simp [hj]
    rw [List.getElem?_take] at h1
    rwa [if_pos (by omega)] at h1

/-- MAKE: 'make([]T, n)', n a variable: a block of n zeros. -/
theorem wpList_mk {P : Program} (w : World) {ops : Array Oper} {rest : List Oper} {o : Oper} {a : Act} {Q : Exit → Act → World → Prop}
    (hg : o.guard = none) (l c : Operand) (t : TypeId) (hop : o.op = Op.makeSlice t l c)
    (e : TypeId) (z : Value) (bytes : Nat) (h1 : P.underlying t = some (.slice e)) (h2 : (P.info? e).map (fun i => (i.zero, i.size, i.bytes)) = some (some z, 1, bytes)) (hz : z.cells = #[z])
    (kl kc : IntKind) (L C : Int) (n : Nat) (hl : a.eval l = .int kl L) (hc : a.eval c = .int kc C) (hL : L = (n : Int)) (hC : C = (n : Int)) (b2 : bytes * n ≤ 281474976710656) (b3 : n ≤ maxLen)
    (hK : ∀ w', Blk w' w.heap.size e (List.replicate n z) → Below w.heap.size w w' → w.heap.size < w'.heap.size → wpList P ops Q rest (a.put o.dst (.slice (some ⟨w.heap.size, 0, none⟩) n n)) w') :
    wpList P ops Q (o :: rest) a w := by
  obtain ⟨i, hi, hz0, hz1, hz2⟩ := info_parts h2
  refine wpList_make_full w hg l c t hop w.heap.size e i z 1 h1 hi hz0 hz1 kl kc L C n hl hc hL hC (by rw [hz2]; exact b2) b3 (Nat.le_refl _) fun w' hown hgrow => ?_
  have hbelow : Below w.heap.size w w' := (Below.refl _ _).grown hgrow (Nat.le_refl _) (fun k hk => nomatch hk)
  obtain ⟨_, ⟨hv, _⟩ | ⟨g, cap, cur, hv, hb, hh, hn, hm, hs, ht⟩⟩ := hown
  · cases hv
  · cases hv
    have hcur : cur = (List.replicate n z).toArray := by
      have : cur.toList = (madeCells z.cells (n * 1)).toList := by
        rw [← ht, List.take_of_length_le]; simp [hs]
      rw [Nat.mul_one, hz, toList_madeCells_one] at this
      rw [← this]
    refine hK w' ?_ hbelow (lt_of_block hh)
    unfold Blk; rw [← hcur]; exact hh

/-- MAKE with a capacity: 'make([]T, l, c)': a block of c zeros. -/
theorem wpList_mk2 {P : Program} (w : World) {ops : Array Oper} {rest : List Oper} {o : Oper} {a : Act} {Q : Exit → Act → World → Prop}
    (hg : o.guard = none) (lo co : Operand) (t : TypeId) (hop : o.op = Op.makeSlice t lo co)
    (e : TypeId) (z : Value) (bytes : Nat) (h1 : P.underlying t = some (.slice e)) (h2 : (P.info? e).map (fun i => (i.zero, i.size, i.bytes)) = some (some z, 1, bytes)) (hz : z.cells = #[z])
    (kl kc : IntKind) (L C : Int) (l c : Nat) (hl : a.eval lo = .int kl L) (hc : a.eval co = .int kc C) (hL : L = (l : Int)) (hC : C = (c : Int)) (hlc : l ≤ c) (b2 : bytes * c ≤ 281474976710656) (b3 : c ≤ maxLen)
    (hK : ∀ w', Blk w' w.heap.size e (List.replicate c z) → Below w.heap.size w w' → w.heap.size < w'.heap.size → wpList P ops Q rest (a.put o.dst (.slice (some ⟨w.heap.size, 0, none⟩) l c)) w') :
    wpList P ops Q (o :: rest) a w := by
  obtain ⟨i, hi, hz0, hz1, hz2⟩ := info_parts h2
  subst hL; subst hC
  have h63 : (c : Int) ≤ 9223372036854775807 := by
    have h := b3
    simp [maxLen] at h
    omega
  have hb' : (i.bytes : Int) * (c : Int) ≤ 281474976710656 := by
    have h : ((i.bytes * c : Nat) : Int) ≤ 281474976710656 := by rw [hz2]; omega
    rwa [Int.natCast_mul] at h
  refine wpList_plain hg fun K hK' => ?_
  have hrun := run_make (P := P) w t e i z h1 hi hz0 kl kc l c (by omega) (by omega) hb' h63
  simp only [Int.toNat_natCast] at hrun
  have hm : (madeCells z.cells (c * i.size)) = (List.replicate c z).toArray := by
    rw [hz1, Nat.mul_one, hz]
    have := toList_madeCells_one z c
    rw [← this]
  rw [hm] at hrun
  have hfin := hK (w.alloc (.cells (List.replicate c z).toArray e)) (Blk.new w e _) ((Below.refl _ _).alloc (Nat.le_refl _) _) (by simp)
  unfold Oper.wp
  generalize w.alloc (.cells (List.replicate c z).toArray e) = w' at *
  simp [execOp, hop, hl, hc, hrun, Result.andThen]
  exact hK' _ _ hfin

/-- APPEND to a slice that is nil or the call's own, of a slice whose cells are known (nil, empty or not). -/
theorem wpList_app {P : Program} (w : World) {ops : Array Oper} {rest : List Oper} {o : Oper} {a : Act} {Q : Exit → Act → World → Prop} (hgd : o.guard = none) (s x : Operand) (t : TypeId)
    (ho : o.op = .call { callee := .builtin .append, args := #[s, x], argTypes := #[t, t] })
    (base : Nat) (e : TypeId) (z : Value) (size bytes : Nat) (ht : P.underlying t = some (.slice e)) (h2 : (P.info? e).map (fun i => (i.zero, i.size, i.bytes)) = some (some z, size, bytes)) (hzs : z.cells.size = size) (hsz : 0 < size)
    (v : Value) (n : Nat) (xs : List Value) (hs : a.eval s = v) (hown : w.ownsRow base e size v n xs)
    (ao : Option Addr) (m c : Nat) (news : List Value) (hx : a.eval x = .slice ao m c) (hl : news.length = m * size) (hnil : ao = none → c = 0) (hmc : m ≤ c) (hsrc : CellsAt w ao news) (h1 : ∀ u ∈ news, u.oneCell' = true)
    (h63 : n + m ≤ maxLen) (hbytes : (n + m) * bytes ≤ 140737488355328) (hbase : base ≤ w.heap.size)
    (h : ∀ v' w', w'.ownsRow base e size v' (n + m) (xs ++ news) → w.grownBy w' v.ownBlock → Below base w w' → wpList P ops Q rest (a.put o.dst v') w') : wpList P ops Q (o :: rest) a w := by
  obtain ⟨i, hi, hz0, hz1, hz2⟩ := info_parts h2
  have hlt := hown.lt
  cases ao with
  | none =>
    have hc0 := hnil rfl
    subst hc0
    have hm : m = 0 := by omega
    subst hm
    have hn : news = [] := List.eq_nil_of_length_eq_zero (by simpa using hl)
    subst hn
    refine wpList_plain hgd fun K hK => ?_
    have hrun := run_append_owned_none (P := P) (w := w) base t o.type e i size ht hi v n xs hown
    unfold Oper.wp
    simp [execOp, ho, resolve, invoke, builtin, hs, hx, hrun, Result.andThen]
    exact hK _ _ (h v w (by simpa using hown) (World.grownBy.refl _ _) (Below.refl _ _))
  | some ad =>
    refine wpList_append_own w hgd s x t ho base e i z size bytes ht hi hz0 hz1 hz2 hzs hsz v n xs hs hown ad m c news hx hl ?_ h1 h63 hbytes hbase fun v' w' hown' hgrow _ => ?_
    · intro j u hu
      rcases hsrc with hsrc | ⟨b, off, he, hsrc⟩
      · subst hsrc; simp at hu
      · cases he
        obtain ⟨hj, rfl⟩ := List.getElem?_eq_some_iff.1 hu
        rw [Addr.add_lit]; exact hsrc j hj
    · exact h v' w' hown' hgrow ((Below.refl _ _).grown hgrow hbase (fun k hk => (hlt k hk).1))

theorem cells_new1 (w : World) (x : Value) (t : TypeId) : CellsAt (w.alloc (.cells #[x] t)) (some ⟨w.heap.size, 0, none⟩) [x] := by
  refine Or.inr ⟨_, _, rfl, fun j hj => ?_⟩
  obtain rfl : j = 0 := by simpa using hj
  rw [World.cell?_alloc_new]; rfl

/-- COPY into a block of the call's own. -/
theorem wpList_cp {P : Program} {w : World} {ops : Array Oper} {rest : List Oper} {o : Oper} {a : Act} {Q : Exit → Act → World → Prop} (hgd : o.guard = none) (d s : Operand) (dT sT : TypeId)
    (ho : o.op = .call { callee := .builtin .copy, args := #[d, s], argTypes := #[dT, sT] }) (elem : TypeId) (hu : P.underlying dT = some (.slice elem)) (hsz : (P.info? elem).map (·.size) = some 1)
    (g off dLen dCap : Nat) (sp : Option Addr) (sLen sCap : Nat) (hd : a.eval d = .slice (some ⟨g, off, none⟩) dLen dCap) (hs : a.eval s = .slice sp sLen sCap)
    (cur : List Value) (t : TypeId) (hb : Blk w g t cur) (cs : List Value) (hn : cs.length = Nat.min sLen dLen) (hsrc : CellsAt w sp cs) (hfit : off + cs.length ≤ cur.length) (h1 : ∀ v ∈ cs, v.oneCell' = true)
    (B : Nat) (hBg : B ≤ g) (h : ∀ w', Blk w' g t (splice cur off cs) → Below B w w' → wpList P ops Q rest (a.put o.dst (goInt cs.length)) w') : wpList P ops Q (o :: rest) a w := by
  refine wpList_copy_splice hgd d s dT sT ho elem hu hsz _ sp dLen dCap sLen sCap hd hs g off cur t hb cs hn (fun hpos => ⟨rfl, ?_⟩) hfit h1 B w (Below.refl _ _) hBg (fun w' hb' hbe => h w' hb'.out hbe)
  rcases hsrc with hsrc | ⟨b, o2, rfl, hsrc⟩
  · subst hsrc; simp at hpos
  · refine ⟨_, rfl, fun j v hj => ?_⟩
    obtain ⟨hlt, rfl⟩ := List.getElem?_eq_some_iff.1 hj
    rw [Addr.add_lit]; exact hsrc j hlt

end Go.Proofs.Ytkcagkcphobmfaa
