/-
  WALKS: math/bits.Len32, LeadingZeros32, limb.Bits: how many binary digits.
-/
import Derived.Test.YtkcagkcphobmfaaLd
set_option linter.unusedVariables false
set_option linter.unusedSimpArgs false
namespace Go.Proofs.Ytkcagkcphobmfaa
open Go.RowKit

/-- How many binary digits a number has. -/
def nbits (n : Nat) : Nat := if n = 0 then 0 else n.log2 + 1

theorem nbits_unique {n k : Nat} (h0 : 2 ^ k ≤ n) (h1 : n < 2 ^ (k + 1)) : nbits n = k + 1 := by
  have hp := Nat.two_pow_pos k
  have hn : n ≠ 0 := by omega
  rw [nbits, if_neg hn]
  have h2 : n.log2 < k + 1 := (Nat.log2_lt hn).2 h1
  have h3 : k ≤ n.log2 := (Nat.le_log2 hn).2 h0
  omega

theorem nbits_zero : nbits 0 = 0 := rfl

theorem nbits_lt (n : Nat) : n < 2 ^ nbits n := by
  rw [nbits]
  split
  · rename_i h; subst h; decide
  · exact Nat.lt_log2_self

theorem nbits_le {n : Nat} (h : n ≠ 0) : 2 ^ (nbits n - 1) ≤ n := by
  rw [nbits, if_neg h]; exact Nat.log2_self_le h

theorem nbits_pos {n : Nat} (h : n ≠ 0) : 0 < nbits n := by rw [nbits, if_neg h]; omega

/-- A number over a base of 2 to the s: its digits are s and those of the upper part. -/
theorem nbits_split {n s y l : Nat} (hl : l < 2 ^ s) (hy : y ≠ 0) (hn : n = l + 2 ^ s * y) : nbits n = s + nbits y := by
  have h1 := nbits_lt y
  have h2 := nbits_le hy
  have h3 := nbits_pos hy
  obtain ⟨b, hb⟩ : ∃ b, nbits y = b + 1 := ⟨nbits y - 1, by omega⟩
  rw [hb] at h1 h2 ⊢
  rw [Nat.add_sub_cancel] at h2
  refine nbits_unique (k := s + b) ?_ ?_
  · rw [Nat.pow_add]
    have := Nat.mul_le_mul_left (2 ^ s) h2
    omega
  · rw [Nat.add_assoc, Nat.pow_add]
    have := Nat.mul_le_mul_left (2 ^ s) (show y + 1 ≤ 2 ^ (b + 1) from h1)
    rw [Nat.mul_add] at this
    omega

theorem nbits_le_of_lt {n k : Nat} (h : n < 2 ^ k) : nbits n ≤ k := by
  by_cases h0 : n = 0
  · subst h0; simp [nbits]
  · have h1 := nbits_le h0
    have h2 : 2 ^ (nbits n - 1) < 2 ^ k := Nat.lt_of_le_of_lt h1 h
    have := (Nat.pow_lt_pow_iff_right (by decide)).1 h2
    omega

/-- A table of the digits' counts: the first 256 bytes of a string. -/
def tabOk (s : ByteArray) : Bool := (List.range 256).all fun y => (s.data[y]?).map (fun b => b.toNat) == some (nbits y)

theorem tab_at {s : ByteArray} (h : tabOk s = true) {y : Nat} (hy : y < 256) : ∃ b : UInt8, s[y]? = some b ∧ b.toNat = nbits y := by
  have h1 := List.all_eq_true.1 h y (by simpa using hy)
  simp only [beq_iff_eq, Option.map_eq_some_iff] at h1
  obtain ⟨b, h2, h3⟩ := h1
  exact ⟨b, h2, h3⟩

/-- An index into a constant string. -/
theorem wpList_tab {P : Program} (w : World) {ops : Array Oper} {rest : List Oper} {o : Oper} {a : Act} {Q : Exit → Act → World → Prop} (hgd : o.guard = none) (t : TypeId) (s : ByteArray) (x : Operand)
    (hop : o.op = .index t (.const (.string s)) x) (ht : P.underlying t = some .string) (k : IntKind) (y : Nat) (hx : a.eval x = .int k (y : Int)) (hy : y < 256) (htab : tabOk s = true)
    (h : wpList P ops Q rest (a.put o.dst (.int .u8 (nbits y : Nat))) w) : wpList P ops Q (o :: rest) a w := by
  obtain ⟨b, hb, hn⟩ := tab_at htab hy
  refine wpList_plain hgd fun K hK => ?_
  have hrun : (Instr.index t (.string s) (.int k (y : Int))).run P w = .ok (.int .u8 (nbits y : Nat)) w := by
    unfold Instr.index
    simp [run_underlying ht, asIntOf, hb, hn]
  unfold Oper.wp
  have he : a.eval (.const (.string s)) = .string s := rfl
  simp [execOp, hop, hx, he, hrun, Result.andThen]
  exact hK _ _ h

set_option maxRecDepth 100000 in
theorem len32_any (x : Nat) (w : World) (hx : x < 4294967296) :
    Calls Try.prog 83 #[.int .u32 (x : Int)] w fun e w' => e = .returned (.int .i64 (nbits x : Nat)) ∧ w' = w := by
  by_cases h1 : 65536 ≤ x
  · obtain ⟨y, hy⟩ : ∃ y : Nat, y = x / 65536 := ⟨_, rfl⟩
    have hyB : y < 65536 := by omega
    have hq : (x : Int) / 65536 = (y : Int) := by omega
    have HY := hid hy; clear hy
    have hb1 : decide ((65536 : Int) ≤ (x : Int)) = true := by rw [decide_eq_true_eq]; omega
    by_cases h2 : 256 ≤ y
    · obtain ⟨z, hz⟩ : ∃ z : Nat, z = y / 256 := ⟨_, rfl⟩
      have hzB : z < 256 := by omega
      have hq2 : (y : Int) / 256 = (z : Int) := by omega
      have HZ := hid hz; clear hz
      have hbits : nbits x = nbits z + 24 := by
        have := nbits_split (n := x) (s := 24) (y := z) (l := x % 16777216) (Nat.mod_lt _ (by decide)) (by have := HZ.out; omega) (by have h3 := HZ.out; have h4 := HY.out; show x = x % 16777216 + 16777216 * z; omega)
        omega
      have HB := hid hbits; clear hbits
      have hn9 : nbits z ≤ 8 := nbits_le_of_lt hzB
      go_enter Try.func83, Try.ntmps83
      go_wp2_with (with_reducible refine Hid.out (p := wpList _ _ _ ({ dst := some 16, op := _, type := _, pos := _, after := _, guard := _ } :: _) _ _) ?_)
      refine hid ?_
      refine wpList_tab _ rfl 9 _ _ rfl Try.underlying9 .u8 z rfl hzB (by decide +kernel) ?_
      go_wp2
      go_ret
      exact ⟨ret_int (by rw [HB.out]; simp; omega), rfl⟩
    · have hyB2 : y < 256 := by omega
      have hy0 : 0 < y := by omega
      have hb2 : decide ((256 : Int) ≤ (y : Int)) = false := by rw [decide_eq_false_iff_not]; omega
      have hbits : nbits x = nbits y + 16 := by
        have := nbits_split (n := x) (s := 16) (y := y) (l := x % 65536) (Nat.mod_lt _ (by decide)) (by omega) (by have h4 := HY.out; show x = x % 65536 + 65536 * y; omega)
        omega
      have HB := hid hbits; clear hbits
      have hn9 : nbits y ≤ 8 := nbits_le_of_lt hyB2
      go_enter Try.func83, Try.ntmps83
      go_wp2_with (with_reducible refine Hid.out (p := wpList _ _ _ ({ dst := some 16, op := _, type := _, pos := _, after := _, guard := _ } :: _) _ _) ?_)
      refine hid ?_
      refine wpList_tab _ rfl 9 _ _ rfl Try.underlying9 .u8 y rfl hyB2 (by decide +kernel) ?_
      go_wp2
      go_ret
      exact ⟨ret_int (by rw [HB.out]; simp; omega), rfl⟩
  · have hb1 : decide ((65536 : Int) ≤ (x : Int)) = false := by rw [decide_eq_false_iff_not]; omega
    by_cases h2 : 256 ≤ x
    · obtain ⟨z, hz⟩ : ∃ z : Nat, z = x / 256 := ⟨_, rfl⟩
      have hzB : z < 256 := by omega
      have hq2 : (x : Int) / 256 = (z : Int) := by omega
      have HZ := hid hz; clear hz
      have hb2 : decide ((256 : Int) ≤ (x : Int)) = true := by rw [decide_eq_true_eq]; omega
      have hbits : nbits x = nbits z + 8 := by
        have := nbits_split (n := x) (s := 8) (y := z) (l := x % 256) (Nat.mod_lt _ (by decide)) (by have := HZ.out; omega) (by have h3 := HZ.out; show x = x % 256 + 256 * z; omega)
        omega
      have HB := hid hbits; clear hbits
      have hn9 : nbits z ≤ 8 := nbits_le_of_lt hzB
      go_enter Try.func83, Try.ntmps83
      go_wp2_with (with_reducible refine Hid.out (p := wpList _ _ _ ({ dst := some 16, op := _, type := _, pos := _, after := _, guard := _ } :: _) _ _) ?_)
      refine hid ?_
      refine wpList_tab _ rfl 9 _ _ rfl Try.underlying9 .u8 z rfl hzB (by decide +kernel) ?_
      go_wp2
      go_ret
      exact ⟨ret_int (by rw [HB.out]; simp; omega), rfl⟩
    · have hxB : x < 256 := by omega
      have hb2 : decide ((256 : Int) ≤ (x : Int)) = false := by rw [decide_eq_false_iff_not]; omega
      have hn9 : nbits x ≤ 8 := nbits_le_of_lt hxB
      go_enter Try.func83, Try.ntmps83
      go_wp2_with (with_reducible refine Hid.out (p := wpList _ _ _ ({ dst := some 16, op := _, type := _, pos := _, after := _, guard := _ } :: _) _ _) ?_)
      refine hid ?_
      refine wpList_tab _ rfl 9 _ _ rfl Try.underlying9 .u8 x rfl hxB (by decide +kernel) ?_
      go_wp2
      go_ret
      exact ⟨rfl, rfl⟩

theorem lz32_any (x : Nat) (w : World) (hx : x < 4294967296) :
    Calls Try.prog 77 #[.int .u32 (x : Int)] w fun e w' => e = .returned (.int .i64 ((32 - nbits x : Nat) : Int)) ∧ w = w' := by
  have hn := nbits_le_of_lt (n := x) (k := 32) hx
  go_enter Try.func77, Try.ntmps77
  go_wp2_with fail
  refine (len32_any x _ hx).mono ?_
  rintro e w' ⟨rfl, rfl⟩
  go_wp2
  go_ret
  exact ⟨ret_int (by omega), rfl⟩

/-- Bits: how many binary digits. -/
theorem bits_any (ao : Option Addr) (n c : Nat) (xs : List Nat) (w : World) (hn : n ≤ 1073741824) (hr : Rw .u32 B32 w ao n c xs) :
    Calls Try.prog 64 #[.slice ao n c] w fun e w' => e = .returned (.int .i64 (nbits (val xs) : Nat)) ∧ w = w' := by
  go_enter Try.func64, Try.ntmps64
  go_wp2_with fail
  refine (cut_any ao n c xs _ (by omega) hr).mono ?_
  rintro e w' ⟨n1, rfl, hn1, hp, rfl⟩
  by_cases h0 : n1 = 0
  · subst h0
    have hx0 : val xs = 0 := limbs_eq_nil.1 (List.eq_nil_of_length_eq_zero hp.len)
    have HX := hid hx0; clear hx0
    go_wp2
    go_ret
    exact ⟨by rw [HX.out]; rfl, rfl⟩
  · obtain ⟨j, rfl⟩ : ∃ j, n1 = j + 1 := ⟨n1 - 1, by omega⟩
    obtain ⟨b1, off1, x, rfl, hx, hxB, hcx⟩ := hp.at (show j < j + 1 by omega)
    have hx' : x < 4294967296 := hxB
    have hx0 : x ≠ 0 := by
      rintro rfl
      have h1 := (digs_nrm B32_two (val xs)).2
      rw [List.getLast?_eq_getElem?] at h1
      change (limbs (val xs))[(limbs (val xs)).length - 1]? ≠ some 0 at h1
      rw [hp.len, Nat.add_sub_cancel] at h1
      exact h1 hx
    have hbits : nbits (val xs) = 32 * j + nbits x := by
      have h1 := val_limbs (val xs)
      have h2 := valB_take_some B32 hx
      rw [valB_take_all _ hp.len] at h2
      change val (limbs (val xs)) = _ at h2
      rw [h1] at h2
      refine nbits_split (l := valB B32 ((limbs (val xs)).take j)) ?_ hx0 ?_
      · have := valB_lt (B := B32) (xs := (limbs (val xs)).take j) (fun x h => limbs_lt _ x (List.mem_of_mem_take h))
        rw [List.length_take, hp.len, Nat.min_eq_left (by omega)] at this
        rw [Nat.pow_mul]; exact this
      · rw [Nat.pow_mul]; exact h2
    have HB := hid hbits; clear hbits
    have hnb := nbits_le_of_lt (n := x) (k := 32) hx'
    clear hx hxB hx0
    go_wp2_with fail
    refine (len32_any x _ hx').mono ?_
    rintro e w' ⟨rfl, rfl⟩
    go_wp2
    go_ret
    exact ⟨ret_int (by rw [HB.out]; simp; try omega), rfl⟩

end Go.Proofs.Ytkcagkcphobmfaa
