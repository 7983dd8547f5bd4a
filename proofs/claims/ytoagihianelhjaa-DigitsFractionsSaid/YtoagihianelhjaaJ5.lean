/-
  TEXTS THAT ARE NUMBERS, by the machine.
-/
import Derived.Test.YtoagihianelhjaaJ1
import Derived.Test.YtoagihianelhjaaJ3
import Derived.Test.YtoagihianelhjaaJ4
import Derived.Test.YtoagihianelhjaaJ0
import Derived.OpenShut
import Derived.Deep.Slices
import Derived.ChangeOld
import Derived.ChangeSame
import Derived.Lib.SmallJoins
set_option linter.unusedVariables false
set_option linter.unusedSimpArgs false
namespace Go.Proofs.Ytoagihianelhjaa
open Go.RowKit

set_option maxRecDepth 100000 in
set_option maxHeartbeats 4000000 in
theorem aDParse {b : ByteArray} (h : okT b) : ACall Try.prog 13 [.one (.v (.string b))] (.tup [.agg (zn 1200 (pvl b)), .one (.v (.int .i64 0))]) := by
  obtain ⟨hs1, hs2, hs3⟩ := h
  refine acallN hTT 76 [.cell 2 24, .tmp 3] Try.func13 rfl rfl rfl rfl rfl ?_
  refine cSeq ?_
  refine cReg ?_
  refine mN hTT (.box 24 ([.v (.bool false), .v (.slice none 0 0)])) rfl rfl rfl ?_
  refine mV hTT _ rfl ?_
  refine mNil ?_
  refine tN ?_
  refine cSeq ?_
  refine cReg ?_
  refine mV hTT _ rfl ?_
  refine mNil ?_
  refine tN ?_
  refine cSeq ?_
  refine cSeq ?_
  by_cases hn : 0 < b.size ∧ sb b 0 = 45
  · skip
    obtain ⟨hn1, hn2⟩ := hn
    have hbd : body b = b.extract 1 b.size := if_pos (decide_eq_true ⟨hn1, hn2⟩)
    have hng : isneg b = true := decide_eq_true ⟨hn1, hn2⟩
    refine cReg ?_
    refine mV hTT _ rfl ?_
    refine mV hTT (.d (.one (.v (.bool true)))) (evb (str_ne hn1)) ?_
    refine mV hTT _ rfl ?_
    refine mV hTT _ rfl ?_
    refine mX (.d (.one (.v (.int .u8 (sb b 0 : Int))))) (xIx (b := b) (z := 0) rfl Try.underlying9 rfl rfl (by decide) (by omega)) ?_
    refine mV hTT (.d (.one (.v (.bool true)))) (evb (by rw [hn2]; rfl)) ?_
    refine mV hTT _ rfl ?_
    refine mNil ?_
    refine tN ?_
    refine cT rfl ?_
    refine cDrawK hTT 4 (by kernel_rfl) (by kernel_rfl) (by kernel_rfl) ?_
    refine .cons (OpS.V _ rfl) ?_
    refine .cons (OpS.X (.d (.one (.v (.string (ByteArray.extract b 1 (ByteArray.size b)))))) (xSl (b := b) (l' := 1) (h' := (ByteArray.size b)) rfl Try.underlying9 rfl rfl rfl (by omega) (Nat.le_refl _))) ?_
    refine .cons (OpS.V _ rfl) ?_
    refine .cons (OpS.V _ rfl) ?_
    refine .nil ?_
    refine mNil ?_
    refine tN ?_
    refine cSeq ?_
    refine cSeq ?_
    refine cView 0 (.d (.one (.v (.string (body b))))) rfl (le_str hbd.symm) ?_
    refine cReg ?_
    refine mV hTT _ rfl ?_
    refine mX (.d (.one (.v (.int .i64 (ByteArray.size (body b) : Int))))) (xLen (b := (body b)) rfl rfl rfl rfl Try.underlying9 rfl) ?_
    refine mV hTT (.d (.one (.v (.bool false)))) (evb (decide_eq_false (by omega))) ?_
    refine mV hTT _ rfl ?_
    refine mV hTT _ rfl ?_
    refine mX (.d (.one (.v (.int .i64 (ByteArray.size (body b) : Int))))) (xLen (b := (body b)) rfl rfl rfl rfl Try.underlying9 rfl) ?_
    refine mV hTT (.d (.one (.v (.bool false)))) (evb (decide_eq_false (by omega))) ?_
    refine mV hTT _ rfl ?_
    refine mNil ?_
    refine tN ?_
    refine cF rfl ?_
    refine cSkip ?_
    refine tN ?_
    refine cSeq ?_
    refine cReg ?_
    refine mN hTT (.box 24 ([.v (.bool false), .v (.slice none 0 0)])) rfl rfl rfl ?_
    refine mNil ?_
    refine tN ?_
    refine cSeq ?_
    refine cSeq ?_
    refine cReg ?_
    refine mV hTT _ rfl ?_
    refine mNil ?_
    refine tN ?_
    refine cBlock ?_
    refine cLoop (ι := Nat) (fun (i : Nat) => ⟨76, [(0, .d (.one (.v (.string (body b))))), (2, .ptr 2 0), (3, .d (.one (.v (.int .i64 0)))), (4, .d (.one (.v (.bool true)))), (5, .ptr 5 0), (6, .d (.one (.v (.int .i64 ((i : Nat) : Int)))))], [(2, .box 24 ([.v (.bool false), .v (.slice none 0 0)])), (5, .box 24 (zn (3 * i) ((dvl (body b) i : Nat) : Int)))]⟩) (fun (i : Nat) => i ≤ (ByteArray.size (body b))) (fun (i : Nat) => (ByteArray.size (body b)) - i) 0 (Nat.zero_le _) (wk (sl := [(0, .d (.one (.v (.string (body b))))), (2, .ptr 2 0), (3, .d (.one (.v (.int .i64 0)))), (4, .d (.one (.v (.bool true)))), (5, .ptr 5 0), (6, .d (.one (.v (.int .i64 ((0 : Nat) : Int)))))]) (hp := [(2, .box 24 ([.v (.bool false), .v (.slice none 0 0)])), (5, .box 24 (zn (3 * 0) ((dvl (body b) 0 : Nat) : Int)))]) rfl ⟨hs rfl, hs rfl, hs rfl, hs rfl, hs rfl, hs' rfl (le_int rfl), trivial⟩ ⟨ho rfl, ho' rfl (leo_nilz2), trivial⟩ rfl) ?_
    rintro i hI
    have hi : i ≤ (ByteArray.size (body b)) := hI
    show AW Try.prog _ _ ⟨76, [(0, .d (.one (.v (.string (body b))))), (2, .ptr 2 0), (3, .d (.one (.v (.int .i64 0)))), (4, .d (.one (.v (.bool true)))), (5, .ptr 5 0), (6, .d (.one (.v (.int .i64 ((i : Nat) : Int)))))], [(2, .box 24 ([.v (.bool false), .v (.slice none 0 0)])), (5, .box 24 (zn (3 * i) ((dvl (body b) i : Nat) : Int)))]⟩
    refine cSeq ?_
    refine cSeq ?_
    refine cReg ?_
    refine mV hTT _ rfl ?_
    refine mV hTT _ rfl ?_
    refine mX (.d (.one (.v (.int .i64 (ByteArray.size (body b) : Int))))) (xLen (b := (body b)) rfl rfl rfl rfl Try.underlying9 rfl) ?_
    refine mV hTT (.d (.one (.v (.bool (decide (((i : Nat) : Int) < (ByteArray.size (body b) : Int))))))) rfl ?_
    refine mNil ?_
    refine tN ?_
    refine cCond rfl (fun hc1 => ?_) (fun hc1 => ?_)
    · skip
      refine cSkip ?_
      refine tN ?_
      refine cBlock ?_
      refine cSeq ?_
      have hil : i < (ByteArray.size (body b)) := by have h0 := of_decide_eq_true hc1; omega
      refine cReg ?_
      refine mV hTT _ rfl ?_
      refine mV hTT _ rfl ?_
      refine mNil ?_
      refine tN ?_
      refine cSeq ?_
      refine cSeq ?_
      refine cReg ?_
      refine mV hTT _ rfl ?_
      refine mNil ?_
      refine tN ?_
      refine cBlock ?_
      refine cLoop (ι := Nat × Nat × Nat) (fun (p : Nat × Nat × Nat) => match p with | (k, n, p) => ⟨76, [(0, .d (.one (.v (.string (body b))))), (2, .ptr 2 0), (3, .d (.one (.v (.int .i64 0)))), (4, .d (.one (.v (.bool true)))), (5, .ptr 5 0), (6, .d (.one (.v (.int .i64 ((i + k : Nat) : Int))))), (7, .d (.one (.v (.int .i64 ((n : Nat) : Int))))), (8, .d (.one (.v (.int .i64 ((p : Nat) : Int))))), (9, .d (.one (.v (.int .i64 ((k : Nat) : Int)))))], [(2, .box 24 ([.v (.bool false), .v (.slice none 0 0)])), (5, .box 24 (zn (3 * i) ((dvl (body b) i : Nat) : Int)))]⟩) (fun (p : Nat × Nat × Nat) => match p with | (k, n, p) => k ≤ 9 ∧ i + k ≤ (ByteArray.size (body b)) ∧ p = 10 ^ k ∧ dvl (body b) (i + k) = dvl (body b) i * p + n ∧ n < p) (fun (p : Nat × Nat × Nat) => match p with | (k, n, p) => 9 - k) (0, 0, 1) (⟨by omega, by omega, rfl, by rw [Nat.mul_one]; rfl, by decide⟩) (wk (sl := [(0, .d (.one (.v (.string (body b))))), (2, .ptr 2 0), (3, .d (.one (.v (.int .i64 0)))), (4, .d (.one (.v (.bool true)))), (5, .ptr 5 0), (6, .d (.one (.v (.int .i64 ((i + 0 : Nat) : Int))))), (7, .d (.one (.v (.int .i64 ((0 : Nat) : Int))))), (8, .d (.one (.v (.int .i64 ((1 : Nat) : Int))))), (9, .d (.one (.v (.int .i64 ((0 : Nat) : Int)))))]) (hp := [(2, .box 24 ([.v (.bool false), .v (.slice none 0 0)])), (5, .box 24 (zn (3 * i) ((dvl (body b) i : Nat) : Int)))]) rfl ⟨hs rfl, hs rfl, hs rfl, hs rfl, hs rfl, hs rfl, hs rfl, hs rfl, hs rfl, trivial⟩ ⟨ho rfl, ho rfl, trivial⟩ rfl) ?_
      rintro ⟨k, n, p⟩ hI
      obtain ⟨hk, hks, hp, hdv, hnp⟩ : k ≤ 9 ∧ i + k ≤ (ByteArray.size (body b)) ∧ p = 10 ^ k ∧ dvl (body b) (i + k) = dvl (body b) i * p + n ∧ n < p := hI
      show AW Try.prog _ _ ⟨76, [(0, .d (.one (.v (.string (body b))))), (2, .ptr 2 0), (3, .d (.one (.v (.int .i64 0)))), (4, .d (.one (.v (.bool true)))), (5, .ptr 5 0), (6, .d (.one (.v (.int .i64 ((i + k : Nat) : Int))))), (7, .d (.one (.v (.int .i64 ((n : Nat) : Int))))), (8, .d (.one (.v (.int .i64 ((p : Nat) : Int))))), (9, .d (.one (.v (.int .i64 ((k : Nat) : Int)))))], [(2, .box 24 ([.v (.bool false), .v (.slice none 0 0)])), (5, .box 24 (zn (3 * i) ((dvl (body b) i : Nat) : Int)))]⟩
      refine cSeq ?_
      refine cSeq ?_
      by_cases hk9 : k < 9
      · skip
        by_cases hik : i + k < (ByteArray.size (body b))
        · skip
          refine cReg ?_
          refine mV hTT _ rfl ?_
          refine mV hTT (.d (.one (.v (.bool true)))) (evb (decide_eq_true (by omega))) ?_
          refine mV hTT _ rfl ?_
          refine mV hTT _ rfl ?_
          refine mV hTT _ rfl ?_
          refine mX (.d (.one (.v (.int .i64 (ByteArray.size (body b) : Int))))) (xLen (b := (body b)) rfl rfl rfl rfl Try.underlying9 rfl) ?_
          refine mV hTT (.d (.one (.v (.bool true)))) (evb (decide_eq_true (by omega))) ?_
          refine mV hTT _ rfl ?_
          refine mNil ?_
          refine tN ?_
          refine cT rfl ?_
          refine cSkip ?_
          refine tN ?_
          refine cSeq ?_
          refine cBlock ?_
          refine cSeq ?_
          refine cSeq ?_
          have hp8 : p ≤ 100000000 := by rw [hp]; exact (Nat.pow_le_pow_right (by decide) (by omega) : 10 ^ k ≤ 10 ^ 8)
          have hdg : isDg (body b) (i + k) := hs3 _ (by omega)
          obtain ⟨hd1, hd2⟩ := hdg
          refine cReg ?_
          refine mV hTT _ rfl ?_
          refine mV hTT _ rfl ?_
          refine mX (.d (.one (.v (.int .u8 (sb (body b) (i + k) : Int))))) (xIx (b := (body b)) (z := ((i + k : Nat) : Int)) rfl Try.underlying9 rfl rfl (by omega) (by omega)) ?_
          refine mV hTT (.d (.one (.v (.bool false)))) (evb (decide_eq_false (by omega))) ?_
          refine mV hTT _ rfl ?_
          refine mV hTT _ rfl ?_
          refine mV hTT _ rfl ?_
          refine mX (.d (.one (.v (.int .u8 (sb (body b) (i + k) : Int))))) (xIx (b := (body b)) (z := ((i + k : Nat) : Int)) rfl Try.underlying9 rfl rfl (by omega) (by omega)) ?_
          refine mV hTT (.d (.one (.v (.bool false)))) (evb (decide_eq_false (by omega))) ?_
          refine mV hTT _ rfl ?_
          refine mNil ?_
          refine tN ?_
          refine cF rfl ?_
          refine cSkip ?_
          refine tN ?_
          refine cSeq ?_
          refine cReg ?_
          refine mV hTT _ rfl ?_
          refine mV hTT (.d (.one (.v (.int .i64 ((10 * n : Nat) : Int))))) (evi ((wr64 (by omega) (by omega)).trans (by omega))) ?_
          refine mV hTT _ rfl ?_
          refine mV hTT _ rfl ?_
          refine mX (.d (.one (.v (.int .u8 (sb (body b) (i + k) : Int))))) (xIx (b := (body b)) (z := ((i + k : Nat) : Int)) rfl Try.underlying9 rfl rfl (by omega) (by omega)) ?_
          refine mV hTT (.d (.one (.v (.int .u8 (((sb (body b) (i + k) - 48) : Nat) : Int))))) (evi ((wr8 (by omega) (by omega)).trans (by omega))) ?_
          refine mV hTT (.d (.one (.v (.int .i64 (((sb (body b) (i + k) - 48) : Nat) : Int))))) (evi (wr64 (by omega) (by omega))) ?_
          refine mV hTT (.d (.one (.v (.int .i64 ((n * 10 + (sb (body b) (i + k) - 48) : Nat) : Int))))) (evi ((wr64 (by omega) (by omega)).trans (by omega))) ?_
          refine mV hTT _ rfl ?_
          refine mV hTT (.d (.one (.v (.int .i64 ((p * 10 : Nat) : Int))))) (evi ((wr64 (by omega) (by omega)).trans (by omega))) ?_
          refine mV hTT _ rfl ?_
          refine mV hTT _ rfl ?_
          refine mNil ?_
          refine tN ?_
          refine cReg ?_
          refine mV hTT _ rfl ?_
          refine mV hTT (.d (.one (.v (.int .i64 (IntKind.i64.wrap (((i + k : Nat) : Int) + 1)))))) rfl ?_
          refine mV hTT _ rfl ?_
          refine mNil ?_
          refine bN ?_
          refine tN ?_
          refine cReg ?_
          refine mV hTT _ rfl ?_
          refine mV hTT (.d (.one (.v (.int .i64 (IntKind.i64.wrap (((k : Nat) : Int) + 1)))))) rfl ?_
          refine mV hTT _ rfl ?_
          refine mNil ?_
          exact ⟨((k + 1), (n * 10 + (sb (body b) (i + k) - 48)), (p * 10)), ⟨by omega, by omega, by rw [hp, Nat.pow_succ], by rw [dvl_split, hdv, Nat.add_mul, Nat.mul_assoc, Nat.add_assoc], by omega⟩, by show 9 - (k + 1) < 9 - k; omega, wk (sl := [(0, .d (.one (.v (.string (body b))))), (2, .ptr 2 0), (3, .d (.one (.v (.int .i64 0)))), (4, .d (.one (.v (.bool true)))), (5, .ptr 5 0), (6, .d (.one (.v (.int .i64 ((i + (k + 1) : Nat) : Int))))), (7, .d (.one (.v (.int .i64 (((n * 10 + (sb (body b) (i + k) - 48)) : Nat) : Int))))), (8, .d (.one (.v (.int .i64 (((p * 10) : Nat) : Int))))), (9, .d (.one (.v (.int .i64 (((k + 1) : Nat) : Int)))))]) (hp := [(2, .box 24 ([.v (.bool false), .v (.slice none 0 0)])), (5, .box 24 (zn (3 * i) ((dvl (body b) i : Nat) : Int)))]) rfl ⟨hs rfl, hs rfl, hs rfl, hs rfl, hs rfl, hs' rfl (le_int ((wr64 (by omega) (by omega)).trans (by omega))), hs rfl, hs rfl, hs' rfl (le_int ((wr64 (by omega) (by omega)).trans (by omega))), trivial⟩ ⟨ho rfl, ho rfl, trivial⟩ rfl⟩
        · skip
          refine cReg ?_
          refine mV hTT _ rfl ?_
          refine mV hTT (.d (.one (.v (.bool true)))) (evb (decide_eq_true (by omega))) ?_
          refine mV hTT _ rfl ?_
          refine mV hTT _ rfl ?_
          refine mV hTT _ rfl ?_
          refine mX (.d (.one (.v (.int .i64 (ByteArray.size (body b) : Int))))) (xLen (b := (body b)) rfl rfl rfl rfl Try.underlying9 rfl) ?_
          refine mV hTT (.d (.one (.v (.bool false)))) (evb (decide_eq_false (by omega))) ?_
          refine mV hTT _ rfl ?_
          refine mNil ?_
          refine tN ?_
          refine cF rfl ?_
          refine cExit ?_
          refine tE ?_
          refine tE ?_
          refine bE ?_
          refine tN ?_
          have hk1 : 1 ≤ k := by omega
          have hp9 : p ≤ 1000000000 := by rw [hp]; exact (Nat.pow_le_pow_right (by decide) hk : 10 ^ k ≤ 10 ^ 9)
          refine cDrawK hTT 7 (by kernel_rfl) (by kernel_rfl) (by kernel_rfl) ?_
          refine .cons (OpS.V (.d (.agg (zn (3 * i) ((dvl (body b) i : Nat) : Int)))) rfl) ?_
          refine .cons (OpS.V _ rfl) ?_
          refine .cons (OpS.C0 (aOf (n := ((p : Nat) : Int)) (by omega) (by omega)) rfl rfl rfl) ?_
          refine .cons (OpS.C0 (aMul (isz (3 * i) ((dvl (body b) i : Nat) : Int)) (isz 2 ((p : Nat) : Int)) (M := ((3 * i) + 2)) (by omega) (by omega) (by decide)) rfl rfl rfl) ?_
          refine .cons (OpS.V _ rfl) ?_
          refine .cons (OpS.C0 (aOf (n := ((n : Nat) : Int)) (by omega) (by omega)) rfl rfl rfl) ?_
          refine .cons (OpS.C0 (aAdd (isz ((3 * i) + 2) (((dvl (body b) i : Nat) : Int) * ((p : Nat) : Int))) (isz 2 ((n : Nat) : Int)) (M := (max ((3 * i) + 2) 2 + 1)) (by omega) (by omega) (by decide)) rfl rfl rfl) ?_
          refine .nil ?_
          refine mS hTT 5 (.box 24 (zn (max ((3 * i) + 2) 2 + 1) ((((dvl (body b) i : Nat) : Int) * ((p : Nat) : Int)) + ((n : Nat) : Int)))) rfl ?_
          refine mNil ?_
          refine bN ?_
          exact ⟨(i + k), by omega, by omega, wk (sl := [(0, .d (.one (.v (.string (body b))))), (2, .ptr 2 0), (3, .d (.one (.v (.int .i64 0)))), (4, .d (.one (.v (.bool true)))), (5, .ptr 5 0), (6, .d (.one (.v (.int .i64 (((i + k) : Nat) : Int)))))]) (hp := [(2, .box 24 ([.v (.bool false), .v (.slice none 0 0)])), (5, .box 24 (zn (3 * (i + k)) ((dvl (body b) (i + k) : Nat) : Int)))]) rfl ⟨hs rfl, hs rfl, hs rfl, hs rfl, hs rfl, hs rfl, trivial⟩ ⟨ho rfl, ho' rfl (leo_zn (by omega) (by rw [hdv, Int.natCast_add, Int.natCast_mul])), trivial⟩ rfl⟩
      · skip
        refine cReg ?_
        refine mV hTT _ rfl ?_
        refine mV hTT (.d (.one (.v (.bool false)))) (evb (decide_eq_false (by omega))) ?_
        refine mV hTT _ rfl ?_
        refine mG rfl rfl ?_
        refine mG rfl rfl ?_
        refine mG rfl rfl ?_
        refine mG rfl rfl ?_
        refine mV hTT _ rfl ?_
        refine mNil ?_
        refine tN ?_
        refine cF rfl ?_
        refine cExit ?_
        refine tE ?_
        refine tE ?_
        refine bE ?_
        refine tN ?_
        have hk1 : 1 ≤ k := by omega
        have hp9 : p ≤ 1000000000 := by rw [hp]; exact (Nat.pow_le_pow_right (by decide) hk : 10 ^ k ≤ 10 ^ 9)
        refine cDrawK hTT 7 (by kernel_rfl) (by kernel_rfl) (by kernel_rfl) ?_
        refine .cons (OpS.V (.d (.agg (zn (3 * i) ((dvl (body b) i : Nat) : Int)))) rfl) ?_
        refine .cons (OpS.V _ rfl) ?_
        refine .cons (OpS.C0 (aOf (n := ((p : Nat) : Int)) (by omega) (by omega)) rfl rfl rfl) ?_
        refine .cons (OpS.C0 (aMul (isz (3 * i) ((dvl (body b) i : Nat) : Int)) (isz 2 ((p : Nat) : Int)) (M := ((3 * i) + 2)) (by omega) (by omega) (by decide)) rfl rfl rfl) ?_
        refine .cons (OpS.V _ rfl) ?_
        refine .cons (OpS.C0 (aOf (n := ((n : Nat) : Int)) (by omega) (by omega)) rfl rfl rfl) ?_
        refine .cons (OpS.C0 (aAdd (isz ((3 * i) + 2) (((dvl (body b) i : Nat) : Int) * ((p : Nat) : Int))) (isz 2 ((n : Nat) : Int)) (M := (max ((3 * i) + 2) 2 + 1)) (by omega) (by omega) (by decide)) rfl rfl rfl) ?_
        refine .nil ?_
        refine mS hTT 5 (.box 24 (zn (max ((3 * i) + 2) 2 + 1) ((((dvl (body b) i : Nat) : Int) * ((p : Nat) : Int)) + ((n : Nat) : Int)))) rfl ?_
        refine mNil ?_
        refine bN ?_
        exact ⟨(i + k), by omega, by omega, wk (sl := [(0, .d (.one (.v (.string (body b))))), (2, .ptr 2 0), (3, .d (.one (.v (.int .i64 0)))), (4, .d (.one (.v (.bool true)))), (5, .ptr 5 0), (6, .d (.one (.v (.int .i64 (((i + k) : Nat) : Int)))))]) (hp := [(2, .box 24 ([.v (.bool false), .v (.slice none 0 0)])), (5, .box 24 (zn (3 * (i + k)) ((dvl (body b) (i + k) : Nat) : Int)))]) rfl ⟨hs rfl, hs rfl, hs rfl, hs rfl, hs rfl, hs rfl, trivial⟩ ⟨ho rfl, ho' rfl (leo_zn (by omega) (by rw [hdv, Int.natCast_add, Int.natCast_mul])), trivial⟩ rfl⟩
    · skip
      refine cExit ?_
      refine tE ?_
      refine tE ?_
      refine bE ?_
      refine tN ?_
      refine cSeq ?_
      refine cSeq ?_
      have hie : i = (ByteArray.size (body b)) := by have h0 := of_decide_eq_false hc1; omega
      subst hie
      refine cReg ?_
      refine mV hTT _ rfl ?_
      refine mNil ?_
      refine tN ?_
      refine cT rfl ?_
      refine cReg ?_
      refine mV hTT (.d (.agg (zn (3 * (ByteArray.size (body b))) ((dvl (body b) (ByteArray.size (body b)) : Nat) : Int)))) rfl ?_
      refine mC0 (aNeg (isz (3 * (ByteArray.size (body b))) ((dvl (body b) (ByteArray.size (body b)) : Nat) : Int)) (by omega)) rfl rfl rfl ?_
      refine mS hTT 5 (.box 24 (zn (3 * (ByteArray.size (body b))) (-((dvl (body b) (ByteArray.size (body b)) : Nat) : Int)))) rfl ?_
      refine mNil ?_
      refine tN ?_
      refine cSeq ?_
      refine cReg ?_
      refine mV hTT (.d (.agg (zn (3 * (ByteArray.size (body b))) (-((dvl (body b) (ByteArray.size (body b)) : Nat) : Int))))) rfl ?_
      refine mS hTT 2 (.box 24 (zn (3 * (ByteArray.size (body b))) (-((dvl (body b) (ByteArray.size (body b)) : Nat) : Int)))) rfl ?_
      refine mV hTT _ rfl ?_
      refine mNil ?_
      refine tN ?_
      refine cRet ?_
      exact rQ rfl (le_tup (dl (dle (le_zn (by omega) (by unfold pvl; rw [hng]; rfl))) (dl DV.same dl0)))
  · skip
    have hng : isneg b = false := decide_eq_false hn
    have hbd : body b = b := by unfold body; rw [hng]; rfl
    by_cases hb0 : 0 < b.size
    · skip
      refine cReg ?_
      refine mV hTT _ rfl ?_
      refine mV hTT (.d (.one (.v (.bool true)))) (evb (str_ne hb0)) ?_
      refine mV hTT _ rfl ?_
      refine mV hTT _ rfl ?_
      refine mX (.d (.one (.v (.int .u8 (sb b 0 : Int))))) (xIx (b := b) (z := 0) rfl Try.underlying9 rfl rfl (by decide) (by omega)) ?_
      refine mV hTT (.d (.one (.v (.bool false)))) (evb (beq_eq_false_iff_ne.2 fun e => hn ⟨hb0, by omega⟩)) ?_
      refine mV hTT _ rfl ?_
      refine mNil ?_
      refine tN ?_
      refine cF rfl ?_
      refine cSkip ?_
      refine tN ?_
      refine cSeq ?_
      refine cSeq ?_
      refine cView 0 (.d (.one (.v (.string (body b))))) rfl (le_str hbd.symm) ?_
      refine cReg ?_
      refine mV hTT _ rfl ?_
      refine mX (.d (.one (.v (.int .i64 (ByteArray.size (body b) : Int))))) (xLen (b := (body b)) rfl rfl rfl rfl Try.underlying9 rfl) ?_
      refine mV hTT (.d (.one (.v (.bool false)))) (evb (decide_eq_false (by omega))) ?_
      refine mV hTT _ rfl ?_
      refine mV hTT _ rfl ?_
      refine mX (.d (.one (.v (.int .i64 (ByteArray.size (body b) : Int))))) (xLen (b := (body b)) rfl rfl rfl rfl Try.underlying9 rfl) ?_
      refine mV hTT (.d (.one (.v (.bool false)))) (evb (decide_eq_false (by omega))) ?_
      refine mV hTT _ rfl ?_
      refine mNil ?_
      refine tN ?_
      refine cF rfl ?_
      refine cSkip ?_
      refine tN ?_
      refine cSeq ?_
      refine cReg ?_
      refine mN hTT (.box 24 ([.v (.bool false), .v (.slice none 0 0)])) rfl rfl rfl ?_
      refine mNil ?_
      refine tN ?_
      refine cSeq ?_
      refine cSeq ?_
      refine cReg ?_
      refine mV hTT _ rfl ?_
      refine mNil ?_
      refine tN ?_
      refine cBlock ?_
      refine cLoop (ι := Nat) (fun (i : Nat) => ⟨76, [(0, .d (.one (.v (.string (body b))))), (2, .ptr 2 0), (3, .d (.one (.v (.int .i64 0)))), (4, .d (.one (.v (.bool false)))), (5, .ptr 5 0), (6, .d (.one (.v (.int .i64 ((i : Nat) : Int)))))], [(2, .box 24 ([.v (.bool false), .v (.slice none 0 0)])), (5, .box 24 (zn (3 * i) ((dvl (body b) i : Nat) : Int)))]⟩) (fun (i : Nat) => i ≤ (ByteArray.size (body b))) (fun (i : Nat) => (ByteArray.size (body b)) - i) 0 (Nat.zero_le _) (wk (sl := [(0, .d (.one (.v (.string (body b))))), (2, .ptr 2 0), (3, .d (.one (.v (.int .i64 0)))), (4, .d (.one (.v (.bool false)))), (5, .ptr 5 0), (6, .d (.one (.v (.int .i64 ((0 : Nat) : Int)))))]) (hp := [(2, .box 24 ([.v (.bool false), .v (.slice none 0 0)])), (5, .box 24 (zn (3 * 0) ((dvl (body b) 0 : Nat) : Int)))]) rfl ⟨hs rfl, hs rfl, hs rfl, hs rfl, hs rfl, hs' rfl (le_int rfl), trivial⟩ ⟨ho rfl, ho' rfl (leo_nilz2), trivial⟩ rfl) ?_
      rintro i hI
      have hi : i ≤ (ByteArray.size (body b)) := hI
      show AW Try.prog _ _ ⟨76, [(0, .d (.one (.v (.string (body b))))), (2, .ptr 2 0), (3, .d (.one (.v (.int .i64 0)))), (4, .d (.one (.v (.bool false)))), (5, .ptr 5 0), (6, .d (.one (.v (.int .i64 ((i : Nat) : Int)))))], [(2, .box 24 ([.v (.bool false), .v (.slice none 0 0)])), (5, .box 24 (zn (3 * i) ((dvl (body b) i : Nat) : Int)))]⟩
      refine cSeq ?_
      refine cSeq ?_
      refine cReg ?_
      refine mV hTT _ rfl ?_
      refine mV hTT _ rfl ?_
      refine mX (.d (.one (.v (.int .i64 (ByteArray.size (body b) : Int))))) (xLen (b := (body b)) rfl rfl rfl rfl Try.underlying9 rfl) ?_
      refine mV hTT (.d (.one (.v (.bool (decide (((i : Nat) : Int) < (ByteArray.size (body b) : Int))))))) rfl ?_
      refine mNil ?_
      refine tN ?_
      refine cCond rfl (fun hc2 => ?_) (fun hc2 => ?_)
      · skip
        refine cSkip ?_
        refine tN ?_
        refine cBlock ?_
        refine cSeq ?_
        have hil : i < (ByteArray.size (body b)) := by have h0 := of_decide_eq_true hc2; omega
        refine cReg ?_
        refine mV hTT _ rfl ?_
        refine mV hTT _ rfl ?_
        refine mNil ?_
        refine tN ?_
        refine cSeq ?_
        refine cSeq ?_
        refine cReg ?_
        refine mV hTT _ rfl ?_
        refine mNil ?_
        refine tN ?_
        refine cBlock ?_
        refine cLoop (ι := Nat × Nat × Nat) (fun (p : Nat × Nat × Nat) => match p with | (k, n, p) => ⟨76, [(0, .d (.one (.v (.string (body b))))), (2, .ptr 2 0), (3, .d (.one (.v (.int .i64 0)))), (4, .d (.one (.v (.bool false)))), (5, .ptr 5 0), (6, .d (.one (.v (.int .i64 ((i + k : Nat) : Int))))), (7, .d (.one (.v (.int .i64 ((n : Nat) : Int))))), (8, .d (.one (.v (.int .i64 ((p : Nat) : Int))))), (9, .d (.one (.v (.int .i64 ((k : Nat) : Int)))))], [(2, .box 24 ([.v (.bool false), .v (.slice none 0 0)])), (5, .box 24 (zn (3 * i) ((dvl (body b) i : Nat) : Int)))]⟩) (fun (p : Nat × Nat × Nat) => match p with | (k, n, p) => k ≤ 9 ∧ i + k ≤ (ByteArray.size (body b)) ∧ p = 10 ^ k ∧ dvl (body b) (i + k) = dvl (body b) i * p + n ∧ n < p) (fun (p : Nat × Nat × Nat) => match p with | (k, n, p) => 9 - k) (0, 0, 1) (⟨by omega, by omega, rfl, by rw [Nat.mul_one]; rfl, by decide⟩) (wk (sl := [(0, .d (.one (.v (.string (body b))))), (2, .ptr 2 0), (3, .d (.one (.v (.int .i64 0)))), (4, .d (.one (.v (.bool false)))), (5, .ptr 5 0), (6, .d (.one (.v (.int .i64 ((i + 0 : Nat) : Int))))), (7, .d (.one (.v (.int .i64 ((0 : Nat) : Int))))), (8, .d (.one (.v (.int .i64 ((1 : Nat) : Int))))), (9, .d (.one (.v (.int .i64 ((0 : Nat) : Int)))))]) (hp := [(2, .box 24 ([.v (.bool false), .v (.slice none 0 0)])), (5, .box 24 (zn (3 * i) ((dvl (body b) i : Nat) : Int)))]) rfl ⟨hs rfl, hs rfl, hs rfl, hs rfl, hs rfl, hs rfl, hs rfl, hs rfl, hs rfl, trivial⟩ ⟨ho rfl, ho rfl, trivial⟩ rfl) ?_
        rintro ⟨k, n, p⟩ hI
        obtain ⟨hk, hks, hp, hdv, hnp⟩ : k ≤ 9 ∧ i + k ≤ (ByteArray.size (body b)) ∧ p = 10 ^ k ∧ dvl (body b) (i + k) = dvl (body b) i * p + n ∧ n < p := hI
        show AW Try.prog _ _ ⟨76, [(0, .d (.one (.v (.string (body b))))), (2, .ptr 2 0), (3, .d (.one (.v (.int .i64 0)))), (4, .d (.one (.v (.bool false)))), (5, .ptr 5 0), (6, .d (.one (.v (.int .i64 ((i + k : Nat) : Int))))), (7, .d (.one (.v (.int .i64 ((n : Nat) : Int))))), (8, .d (.one (.v (.int .i64 ((p : Nat) : Int))))), (9, .d (.one (.v (.int .i64 ((k : Nat) : Int)))))], [(2, .box 24 ([.v (.bool false), .v (.slice none 0 0)])), (5, .box 24 (zn (3 * i) ((dvl (body b) i : Nat) : Int)))]⟩
        refine cSeq ?_
        refine cSeq ?_
        by_cases hk9 : k < 9
        · skip
          by_cases hik : i + k < (ByteArray.size (body b))
          · skip
            refine cReg ?_
            refine mV hTT _ rfl ?_
            refine mV hTT (.d (.one (.v (.bool true)))) (evb (decide_eq_true (by omega))) ?_
            refine mV hTT _ rfl ?_
            refine mV hTT _ rfl ?_
            refine mV hTT _ rfl ?_
            refine mX (.d (.one (.v (.int .i64 (ByteArray.size (body b) : Int))))) (xLen (b := (body b)) rfl rfl rfl rfl Try.underlying9 rfl) ?_
            refine mV hTT (.d (.one (.v (.bool true)))) (evb (decide_eq_true (by omega))) ?_
            refine mV hTT _ rfl ?_
            refine mNil ?_
            refine tN ?_
            refine cT rfl ?_
            refine cSkip ?_
            refine tN ?_
            refine cSeq ?_
            refine cBlock ?_
            refine cSeq ?_
            refine cSeq ?_
            have hp8 : p ≤ 100000000 := by rw [hp]; exact (Nat.pow_le_pow_right (by decide) (by omega) : 10 ^ k ≤ 10 ^ 8)
            have hdg : isDg (body b) (i + k) := hs3 _ (by omega)
            obtain ⟨hd1, hd2⟩ := hdg
            refine cReg ?_
            refine mV hTT _ rfl ?_
            refine mV hTT _ rfl ?_
            refine mX (.d (.one (.v (.int .u8 (sb (body b) (i + k) : Int))))) (xIx (b := (body b)) (z := ((i + k : Nat) : Int)) rfl Try.underlying9 rfl rfl (by omega) (by omega)) ?_
            refine mV hTT (.d (.one (.v (.bool false)))) (evb (decide_eq_false (by omega))) ?_
            refine mV hTT _ rfl ?_
            refine mV hTT _ rfl ?_
            refine mV hTT _ rfl ?_
            refine mX (.d (.one (.v (.int .u8 (sb (body b) (i + k) : Int))))) (xIx (b := (body b)) (z := ((i + k : Nat) : Int)) rfl Try.underlying9 rfl rfl (by omega) (by omega)) ?_
            refine mV hTT (.d (.one (.v (.bool false)))) (evb (decide_eq_false (by omega))) ?_
            refine mV hTT _ rfl ?_
            refine mNil ?_
            refine tN ?_
            refine cF rfl ?_
            refine cSkip ?_
            refine tN ?_
            refine cSeq ?_
            refine cReg ?_
            refine mV hTT _ rfl ?_
            refine mV hTT (.d (.one (.v (.int .i64 ((10 * n : Nat) : Int))))) (evi ((wr64 (by omega) (by omega)).trans (by omega))) ?_
            refine mV hTT _ rfl ?_
            refine mV hTT _ rfl ?_
            refine mX (.d (.one (.v (.int .u8 (sb (body b) (i + k) : Int))))) (xIx (b := (body b)) (z := ((i + k : Nat) : Int)) rfl Try.underlying9 rfl rfl (by omega) (by omega)) ?_
            refine mV hTT (.d (.one (.v (.int .u8 (((sb (body b) (i + k) - 48) : Nat) : Int))))) (evi ((wr8 (by omega) (by omega)).trans (by omega))) ?_
            refine mV hTT (.d (.one (.v (.int .i64 (((sb (body b) (i + k) - 48) : Nat) : Int))))) (evi (wr64 (by omega) (by omega))) ?_
            refine mV hTT (.d (.one (.v (.int .i64 ((n * 10 + (sb (body b) (i + k) - 48) : Nat) : Int))))) (evi ((wr64 (by omega) (by omega)).trans (by omega))) ?_
            refine mV hTT _ rfl ?_
            refine mV hTT (.d (.one (.v (.int .i64 ((p * 10 : Nat) : Int))))) (evi ((wr64 (by omega) (by omega)).trans (by omega))) ?_
            refine mV hTT _ rfl ?_
            refine mV hTT _ rfl ?_
            refine mNil ?_
            refine tN ?_
            refine cReg ?_
            refine mV hTT _ rfl ?_
            refine mV hTT (.d (.one (.v (.int .i64 (IntKind.i64.wrap (((i + k : Nat) : Int) + 1)))))) rfl ?_
            refine mV hTT _ rfl ?_
            refine mNil ?_
            refine bN ?_
            refine tN ?_
            refine cReg ?_
            refine mV hTT _ rfl ?_
            refine mV hTT (.d (.one (.v (.int .i64 (IntKind.i64.wrap (((k : Nat) : Int) + 1)))))) rfl ?_
            refine mV hTT _ rfl ?_
            refine mNil ?_
            exact ⟨((k + 1), (n * 10 + (sb (body b) (i + k) - 48)), (p * 10)), ⟨by omega, by omega, by rw [hp, Nat.pow_succ], by rw [dvl_split, hdv, Nat.add_mul, Nat.mul_assoc, Nat.add_assoc], by omega⟩, by show 9 - (k + 1) < 9 - k; omega, wk (sl := [(0, .d (.one (.v (.string (body b))))), (2, .ptr 2 0), (3, .d (.one (.v (.int .i64 0)))), (4, .d (.one (.v (.bool false)))), (5, .ptr 5 0), (6, .d (.one (.v (.int .i64 ((i + (k + 1) : Nat) : Int))))), (7, .d (.one (.v (.int .i64 (((n * 10 + (sb (body b) (i + k) - 48)) : Nat) : Int))))), (8, .d (.one (.v (.int .i64 (((p * 10) : Nat) : Int))))), (9, .d (.one (.v (.int .i64 (((k + 1) : Nat) : Int)))))]) (hp := [(2, .box 24 ([.v (.bool false), .v (.slice none 0 0)])), (5, .box 24 (zn (3 * i) ((dvl (body b) i : Nat) : Int)))]) rfl ⟨hs rfl, hs rfl, hs rfl, hs rfl, hs rfl, hs' rfl (le_int ((wr64 (by omega) (by omega)).trans (by omega))), hs rfl, hs rfl, hs' rfl (le_int ((wr64 (by omega) (by omega)).trans (by omega))), trivial⟩ ⟨ho rfl, ho rfl, trivial⟩ rfl⟩
          · skip
            refine cReg ?_
            refine mV hTT _ rfl ?_
            refine mV hTT (.d (.one (.v (.bool true)))) (evb (decide_eq_true (by omega))) ?_
            refine mV hTT _ rfl ?_
            refine mV hTT _ rfl ?_
            refine mV hTT _ rfl ?_
            refine mX (.d (.one (.v (.int .i64 (ByteArray.size (body b) : Int))))) (xLen (b := (body b)) rfl rfl rfl rfl Try.underlying9 rfl) ?_
            refine mV hTT (.d (.one (.v (.bool false)))) (evb (decide_eq_false (by omega))) ?_
            refine mV hTT _ rfl ?_
            refine mNil ?_
            refine tN ?_
            refine cF rfl ?_
            refine cExit ?_
            refine tE ?_
            refine tE ?_
            refine bE ?_
            refine tN ?_
            have hk1 : 1 ≤ k := by omega
            have hp9 : p ≤ 1000000000 := by rw [hp]; exact (Nat.pow_le_pow_right (by decide) hk : 10 ^ k ≤ 10 ^ 9)
            refine cDrawK hTT 7 (by kernel_rfl) (by kernel_rfl) (by kernel_rfl) ?_
            refine .cons (OpS.V (.d (.agg (zn (3 * i) ((dvl (body b) i : Nat) : Int)))) rfl) ?_
            refine .cons (OpS.V _ rfl) ?_
            refine .cons (OpS.C0 (aOf (n := ((p : Nat) : Int)) (by omega) (by omega)) rfl rfl rfl) ?_
            refine .cons (OpS.C0 (aMul (isz (3 * i) ((dvl (body b) i : Nat) : Int)) (isz 2 ((p : Nat) : Int)) (M := ((3 * i) + 2)) (by omega) (by omega) (by decide)) rfl rfl rfl) ?_
            refine .cons (OpS.V _ rfl) ?_
            refine .cons (OpS.C0 (aOf (n := ((n : Nat) : Int)) (by omega) (by omega)) rfl rfl rfl) ?_
            refine .cons (OpS.C0 (aAdd (isz ((3 * i) + 2) (((dvl (body b) i : Nat) : Int) * ((p : Nat) : Int))) (isz 2 ((n : Nat) : Int)) (M := (max ((3 * i) + 2) 2 + 1)) (by omega) (by omega) (by decide)) rfl rfl rfl) ?_
            refine .nil ?_
            refine mS hTT 5 (.box 24 (zn (max ((3 * i) + 2) 2 + 1) ((((dvl (body b) i : Nat) : Int) * ((p : Nat) : Int)) + ((n : Nat) : Int)))) rfl ?_
            refine mNil ?_
            refine bN ?_
            exact ⟨(i + k), by omega, by omega, wk (sl := [(0, .d (.one (.v (.string (body b))))), (2, .ptr 2 0), (3, .d (.one (.v (.int .i64 0)))), (4, .d (.one (.v (.bool false)))), (5, .ptr 5 0), (6, .d (.one (.v (.int .i64 (((i + k) : Nat) : Int)))))]) (hp := [(2, .box 24 ([.v (.bool false), .v (.slice none 0 0)])), (5, .box 24 (zn (3 * (i + k)) ((dvl (body b) (i + k) : Nat) : Int)))]) rfl ⟨hs rfl, hs rfl, hs rfl, hs rfl, hs rfl, hs rfl, trivial⟩ ⟨ho rfl, ho' rfl (leo_zn (by omega) (by rw [hdv, Int.natCast_add, Int.natCast_mul])), trivial⟩ rfl⟩
        · skip
          refine cReg ?_
          refine mV hTT _ rfl ?_
          refine mV hTT (.d (.one (.v (.bool false)))) (evb (decide_eq_false (by omega))) ?_
          refine mV hTT _ rfl ?_
          refine mG rfl rfl ?_
          refine mG rfl rfl ?_
          refine mG rfl rfl ?_
          refine mG rfl rfl ?_
          refine mV hTT _ rfl ?_
          refine mNil ?_
          refine tN ?_
          refine cF rfl ?_
          refine cExit ?_
          refine tE ?_
          refine tE ?_
          refine bE ?_
          refine tN ?_
          have hk1 : 1 ≤ k := by omega
          have hp9 : p ≤ 1000000000 := by rw [hp]; exact (Nat.pow_le_pow_right (by decide) hk : 10 ^ k ≤ 10 ^ 9)
          refine cDrawK hTT 7 (by kernel_rfl) (by kernel_rfl) (by kernel_rfl) ?_
          refine .cons (OpS.V (.d (.agg (zn (3 * i) ((dvl (body b) i : Nat) : Int)))) rfl) ?_
          refine .cons (OpS.V _ rfl) ?_
          refine .cons (OpS.C0 (aOf (n := ((p : Nat) : Int)) (by omega) (by omega)) rfl rfl rfl) ?_
          refine .cons (OpS.C0 (aMul (isz (3 * i) ((dvl (body b) i : Nat) : Int)) (isz 2 ((p : Nat) : Int)) (M := ((3 * i) + 2)) (by omega) (by omega) (by decide)) rfl rfl rfl) ?_
          refine .cons (OpS.V _ rfl) ?_
          refine .cons (OpS.C0 (aOf (n := ((n : Nat) : Int)) (by omega) (by omega)) rfl rfl rfl) ?_
          refine .cons (OpS.C0 (aAdd (isz ((3 * i) + 2) (((dvl (body b) i : Nat) : Int) * ((p : Nat) : Int))) (isz 2 ((n : Nat) : Int)) (M := (max ((3 * i) + 2) 2 + 1)) (by omega) (by omega) (by decide)) rfl rfl rfl) ?_
          refine .nil ?_
          refine mS hTT 5 (.box 24 (zn (max ((3 * i) + 2) 2 + 1) ((((dvl (body b) i : Nat) : Int) * ((p : Nat) : Int)) + ((n : Nat) : Int)))) rfl ?_
          refine mNil ?_
          refine bN ?_
          exact ⟨(i + k), by omega, by omega, wk (sl := [(0, .d (.one (.v (.string (body b))))), (2, .ptr 2 0), (3, .d (.one (.v (.int .i64 0)))), (4, .d (.one (.v (.bool false)))), (5, .ptr 5 0), (6, .d (.one (.v (.int .i64 (((i + k) : Nat) : Int)))))]) (hp := [(2, .box 24 ([.v (.bool false), .v (.slice none 0 0)])), (5, .box 24 (zn (3 * (i + k)) ((dvl (body b) (i + k) : Nat) : Int)))]) rfl ⟨hs rfl, hs rfl, hs rfl, hs rfl, hs rfl, hs rfl, trivial⟩ ⟨ho rfl, ho' rfl (leo_zn (by omega) (by rw [hdv, Int.natCast_add, Int.natCast_mul])), trivial⟩ rfl⟩
      · skip
        refine cExit ?_
        refine tE ?_
        refine tE ?_
        refine bE ?_
        refine tN ?_
        refine cSeq ?_
        refine cSeq ?_
        have hie : i = (ByteArray.size (body b)) := by have h0 := of_decide_eq_false hc2; omega
        subst hie
        refine cReg ?_
        refine mV hTT _ rfl ?_
        refine mNil ?_
        refine tN ?_
        refine cF rfl ?_
        refine cSkip ?_
        refine tN ?_
        refine cSeq ?_
        refine cReg ?_
        refine mV hTT (.d (.agg (zn (3 * (ByteArray.size (body b))) ((dvl (body b) (ByteArray.size (body b)) : Nat) : Int)))) rfl ?_
        refine mS hTT 2 (.box 24 (zn (3 * (ByteArray.size (body b))) ((dvl (body b) (ByteArray.size (body b)) : Nat) : Int))) rfl ?_
        refine mV hTT _ rfl ?_
        refine mNil ?_
        refine tN ?_
        refine cRet ?_
        exact rQ rfl (le_tup (dl (dle (le_zn (by omega) (by unfold pvl; rw [hng]; rfl))) (dl DV.same dl0)))
    · skip
      exfalso
      rw [hbd] at hs1
      omega

set_option maxRecDepth 100000 in
set_option maxHeartbeats 4000000 in
theorem aDBad1 {b : ByteArray} (h : ¬ (1 ≤ (body b).size ∧ (body b).size ≤ 400)) : ACall Try.prog 13 [.one (.v (.string b))] (.tup [.agg [.v (.bool false), .v (.slice none 0 0)], .one (.v (.int .i64 4))]) := by
  refine acallN hTT 76 [.cell 2 24, .tmp 3] Try.func13 rfl rfl rfl rfl rfl ?_
  refine cSeq ?_
  refine cReg ?_
  refine mN hTT (.box 24 ([.v (.bool false), .v (.slice none 0 0)])) rfl rfl rfl ?_
  refine mV hTT _ rfl ?_
  refine mNil ?_
  refine tN ?_
  refine cSeq ?_
  refine cReg ?_
  refine mV hTT _ rfl ?_
  refine mNil ?_
  refine tN ?_
  refine cSeq ?_
  refine cSeq ?_
  by_cases hn : 0 < b.size ∧ sb b 0 = 45
  · skip
    obtain ⟨hn1, hn2⟩ := hn
    have hbd : body b = b.extract 1 b.size := if_pos (decide_eq_true ⟨hn1, hn2⟩)
    have hng : isneg b = true := decide_eq_true ⟨hn1, hn2⟩
    refine cReg ?_
    refine mV hTT _ rfl ?_
    refine mV hTT (.d (.one (.v (.bool true)))) (evb (str_ne hn1)) ?_
    refine mV hTT _ rfl ?_
    refine mV hTT _ rfl ?_
    refine mX (.d (.one (.v (.int .u8 (sb b 0 : Int))))) (xIx (b := b) (z := 0) rfl Try.underlying9 rfl rfl (by decide) (by omega)) ?_
    refine mV hTT (.d (.one (.v (.bool true)))) (evb (by rw [hn2]; rfl)) ?_
    refine mV hTT _ rfl ?_
    refine mNil ?_
    refine tN ?_
    refine cT rfl ?_
    refine cDrawK hTT 4 (by kernel_rfl) (by kernel_rfl) (by kernel_rfl) ?_
    refine .cons (OpS.V _ rfl) ?_
    refine .cons (OpS.X (.d (.one (.v (.string (ByteArray.extract b 1 (ByteArray.size b)))))) (xSl (b := b) (l' := 1) (h' := (ByteArray.size b)) rfl Try.underlying9 rfl rfl rfl (by omega) (Nat.le_refl _))) ?_
    refine .cons (OpS.V _ rfl) ?_
    refine .cons (OpS.V _ rfl) ?_
    refine .nil ?_
    refine mNil ?_
    refine tN ?_
    refine cSeq ?_
    refine cSeq ?_
    refine cView 0 (.d (.one (.v (.string (body b))))) rfl (le_str hbd.symm) ?_
    by_cases hs0 : (ByteArray.size (body b)) < 1
    · skip
      refine cReg ?_
      refine mV hTT _ rfl ?_
      refine mX (.d (.one (.v (.int .i64 (ByteArray.size (body b) : Int))))) (xLen (b := (body b)) rfl rfl rfl rfl Try.underlying9 rfl) ?_
      refine mV hTT (.d (.one (.v (.bool true)))) (evb (decide_eq_true (by omega))) ?_
      refine mV hTT _ rfl ?_
      refine mG rfl rfl ?_
      refine mG rfl rfl ?_
      refine mG rfl rfl ?_
      refine mV hTT _ rfl ?_
      refine mNil ?_
      refine tN ?_
      refine cT rfl ?_
      refine cSeq ?_
      refine cReg ?_
      refine mV hTT (.d (.agg ([.v (.bool false), .v (.slice none 0 0)]))) rfl ?_
      refine mS hTT 2 (.box 24 ([.v (.bool false), .v (.slice none 0 0)])) rfl ?_
      refine mV hTT _ rfl ?_
      refine mNil ?_
      refine tN ?_
      refine cRet ?_
      refine tR ?_
      exact rQ rfl (AV.le.rfl)
    · skip
      refine cReg ?_
      refine mV hTT _ rfl ?_
      refine mX (.d (.one (.v (.int .i64 (ByteArray.size (body b) : Int))))) (xLen (b := (body b)) rfl rfl rfl rfl Try.underlying9 rfl) ?_
      refine mV hTT (.d (.one (.v (.bool false)))) (evb (decide_eq_false (by omega))) ?_
      refine mV hTT _ rfl ?_
      refine mV hTT _ rfl ?_
      refine mX (.d (.one (.v (.int .i64 (ByteArray.size (body b) : Int))))) (xLen (b := (body b)) rfl rfl rfl rfl Try.underlying9 rfl) ?_
      refine mV hTT (.d (.one (.v (.bool true)))) (evb (decide_eq_true (by omega))) ?_
      refine mV hTT _ rfl ?_
      refine mNil ?_
      refine tN ?_
      refine cT rfl ?_
      refine cSeq ?_
      refine cReg ?_
      refine mV hTT (.d (.agg ([.v (.bool false), .v (.slice none 0 0)]))) rfl ?_
      refine mS hTT 2 (.box 24 ([.v (.bool false), .v (.slice none 0 0)])) rfl ?_
      refine mV hTT _ rfl ?_
      refine mNil ?_
      refine tN ?_
      refine cRet ?_
      refine tR ?_
      exact rQ rfl (AV.le.rfl)
  · skip
    have hng : isneg b = false := decide_eq_false hn
    have hbd : body b = b := by unfold body; rw [hng]; rfl
    by_cases hb0 : 0 < b.size
    · skip
      refine cReg ?_
      refine mV hTT _ rfl ?_
      refine mV hTT (.d (.one (.v (.bool true)))) (evb (str_ne hb0)) ?_
      refine mV hTT _ rfl ?_
      refine mV hTT _ rfl ?_
      refine mX (.d (.one (.v (.int .u8 (sb b 0 : Int))))) (xIx (b := b) (z := 0) rfl Try.underlying9 rfl rfl (by decide) (by omega)) ?_
      refine mV hTT (.d (.one (.v (.bool false)))) (evb (beq_eq_false_iff_ne.2 fun e => hn ⟨hb0, by omega⟩)) ?_
      refine mV hTT _ rfl ?_
      refine mNil ?_
      refine tN ?_
      refine cF rfl ?_
      refine cSkip ?_
      refine tN ?_
      refine cSeq ?_
      refine cSeq ?_
      refine cView 0 (.d (.one (.v (.string (body b))))) rfl (le_str hbd.symm) ?_
      by_cases hs0 : (ByteArray.size (body b)) < 1
      · skip
        refine cReg ?_
        refine mV hTT _ rfl ?_
        refine mX (.d (.one (.v (.int .i64 (ByteArray.size (body b) : Int))))) (xLen (b := (body b)) rfl rfl rfl rfl Try.underlying9 rfl) ?_
        refine mV hTT (.d (.one (.v (.bool true)))) (evb (decide_eq_true (by omega))) ?_
        refine mV hTT _ rfl ?_
        refine mG rfl rfl ?_
        refine mG rfl rfl ?_
        refine mG rfl rfl ?_
        refine mV hTT _ rfl ?_
        refine mNil ?_
        refine tN ?_
        refine cT rfl ?_
        refine cSeq ?_
        refine cReg ?_
        refine mV hTT (.d (.agg ([.v (.bool false), .v (.slice none 0 0)]))) rfl ?_
        refine mS hTT 2 (.box 24 ([.v (.bool false), .v (.slice none 0 0)])) rfl ?_
        refine mV hTT _ rfl ?_
        refine mNil ?_
        refine tN ?_
        refine cRet ?_
        refine tR ?_
        exact rQ rfl (AV.le.rfl)
      · skip
        refine cReg ?_
        refine mV hTT _ rfl ?_
        refine mX (.d (.one (.v (.int .i64 (ByteArray.size (body b) : Int))))) (xLen (b := (body b)) rfl rfl rfl rfl Try.underlying9 rfl) ?_
        refine mV hTT (.d (.one (.v (.bool false)))) (evb (decide_eq_false (by omega))) ?_
        refine mV hTT _ rfl ?_
        refine mV hTT _ rfl ?_
        refine mX (.d (.one (.v (.int .i64 (ByteArray.size (body b) : Int))))) (xLen (b := (body b)) rfl rfl rfl rfl Try.underlying9 rfl) ?_
        refine mV hTT (.d (.one (.v (.bool true)))) (evb (decide_eq_true (by omega))) ?_
        refine mV hTT _ rfl ?_
        refine mNil ?_
        refine tN ?_
        refine cT rfl ?_
        refine cSeq ?_
        refine cReg ?_
        refine mV hTT (.d (.agg ([.v (.bool false), .v (.slice none 0 0)]))) rfl ?_
        refine mS hTT 2 (.box 24 ([.v (.bool false), .v (.slice none 0 0)])) rfl ?_
        refine mV hTT _ rfl ?_
        refine mNil ?_
        refine tN ?_
        refine cRet ?_
        refine tR ?_
        exact rQ rfl (AV.le.rfl)
    · skip
      have hb00 : b.size = 0 := by omega
      refine cReg ?_
      refine mV hTT _ rfl ?_
      refine mV hTT (.d (.one (.v (.bool false)))) (evb (str_nil hb00)) ?_
      refine mV hTT _ rfl ?_
      refine mG rfl rfl ?_
      refine mG rfl rfl ?_
      refine mG rfl rfl ?_
      refine mV hTT _ rfl ?_
      refine mNil ?_
      refine tN ?_
      refine cF rfl ?_
      refine cSkip ?_
      refine tN ?_
      refine cSeq ?_
      refine cSeq ?_
      refine cView 0 (.d (.one (.v (.string (body b))))) rfl (le_str hbd.symm) ?_
      by_cases hs0 : (ByteArray.size (body b)) < 1
      · skip
        refine cReg ?_
        refine mV hTT _ rfl ?_
        refine mX (.d (.one (.v (.int .i64 (ByteArray.size (body b) : Int))))) (xLen (b := (body b)) rfl rfl rfl rfl Try.underlying9 rfl) ?_
        refine mV hTT (.d (.one (.v (.bool true)))) (evb (decide_eq_true (by omega))) ?_
        refine mV hTT _ rfl ?_
        refine mG rfl rfl ?_
        refine mG rfl rfl ?_
        refine mG rfl rfl ?_
        refine mV hTT _ rfl ?_
        refine mNil ?_
        refine tN ?_
        refine cT rfl ?_
        refine cSeq ?_
        refine cReg ?_
        refine mV hTT (.d (.agg ([.v (.bool false), .v (.slice none 0 0)]))) rfl ?_
        refine mS hTT 2 (.box 24 ([.v (.bool false), .v (.slice none 0 0)])) rfl ?_
        refine mV hTT _ rfl ?_
        refine mNil ?_
        refine tN ?_
        refine cRet ?_
        refine tR ?_
        exact rQ rfl (AV.le.rfl)
      · skip
        refine cReg ?_
        refine mV hTT _ rfl ?_
        refine mX (.d (.one (.v (.int .i64 (ByteArray.size (body b) : Int))))) (xLen (b := (body b)) rfl rfl rfl rfl Try.underlying9 rfl) ?_
        refine mV hTT (.d (.one (.v (.bool false)))) (evb (decide_eq_false (by omega))) ?_
        refine mV hTT _ rfl ?_
        refine mV hTT _ rfl ?_
        refine mX (.d (.one (.v (.int .i64 (ByteArray.size (body b) : Int))))) (xLen (b := (body b)) rfl rfl rfl rfl Try.underlying9 rfl) ?_
        refine mV hTT (.d (.one (.v (.bool true)))) (evb (decide_eq_true (by omega))) ?_
        refine mV hTT _ rfl ?_
        refine mNil ?_
        refine tN ?_
        refine cT rfl ?_
        refine cSeq ?_
        refine cReg ?_
        refine mV hTT (.d (.agg ([.v (.bool false), .v (.slice none 0 0)]))) rfl ?_
        refine mS hTT 2 (.box 24 ([.v (.bool false), .v (.slice none 0 0)])) rfl ?_
        refine mV hTT _ rfl ?_
        refine mNil ?_
        refine tN ?_
        refine cRet ?_
        refine tR ?_
        exact rQ rfl (AV.le.rfl)

set_option maxRecDepth 100000 in
set_option maxHeartbeats 4000000 in
theorem aDBad2 {b : ByteArray} {q : Nat} (h : 1 ≤ (body b).size ∧ (body b).size ≤ 400) (hq1 : q < (body b).size) (hq2 : ∀ i, i < q → isDg (body b) i) (hq3 : ¬ isDg (body b) q) : ACall Try.prog 13 [.one (.v (.string b))] (.tup [.agg [.v (.bool false), .v (.slice none 0 0)], .one (.v (.int .i64 4))]) := by
  obtain ⟨hs1, hs2⟩ := h
  refine acallN hTT 76 [.cell 2 24, .tmp 3] Try.func13 rfl rfl rfl rfl rfl ?_
  refine cSeq ?_
  refine cReg ?_
  refine mN hTT (.box 24 ([.v (.bool false), .v (.slice none 0 0)])) rfl rfl rfl ?_
  refine mV hTT _ rfl ?_
  refine mNil ?_
  refine tN ?_
  refine cSeq ?_
  refine cReg ?_
  refine mV hTT _ rfl ?_
  refine mNil ?_
  refine tN ?_
  refine cSeq ?_
  refine cSeq ?_
  by_cases hn : 0 < b.size ∧ sb b 0 = 45
  · skip
    obtain ⟨hn1, hn2⟩ := hn
    have hbd : body b = b.extract 1 b.size := if_pos (decide_eq_true ⟨hn1, hn2⟩)
    have hng : isneg b = true := decide_eq_true ⟨hn1, hn2⟩
    refine cReg ?_
    refine mV hTT _ rfl ?_
    refine mV hTT (.d (.one (.v (.bool true)))) (evb (str_ne hn1)) ?_
    refine mV hTT _ rfl ?_
    refine mV hTT _ rfl ?_
    refine mX (.d (.one (.v (.int .u8 (sb b 0 : Int))))) (xIx (b := b) (z := 0) rfl Try.underlying9 rfl rfl (by decide) (by omega)) ?_
    refine mV hTT (.d (.one (.v (.bool true)))) (evb (by rw [hn2]; rfl)) ?_
    refine mV hTT _ rfl ?_
    refine mNil ?_
    refine tN ?_
    refine cT rfl ?_
    refine cDrawK hTT 4 (by kernel_rfl) (by kernel_rfl) (by kernel_rfl) ?_
    refine .cons (OpS.V _ rfl) ?_
    refine .cons (OpS.X (.d (.one (.v (.string (ByteArray.extract b 1 (ByteArray.size b)))))) (xSl (b := b) (l' := 1) (h' := (ByteArray.size b)) rfl Try.underlying9 rfl rfl rfl (by omega) (Nat.le_refl _))) ?_
    refine .cons (OpS.V _ rfl) ?_
    refine .cons (OpS.V _ rfl) ?_
    refine .nil ?_
    refine mNil ?_
    refine tN ?_
    refine cSeq ?_
    refine cSeq ?_
    refine cView 0 (.d (.one (.v (.string (body b))))) rfl (le_str hbd.symm) ?_
    refine cReg ?_
    refine mV hTT _ rfl ?_
    refine mX (.d (.one (.v (.int .i64 (ByteArray.size (body b) : Int))))) (xLen (b := (body b)) rfl rfl rfl rfl Try.underlying9 rfl) ?_
    refine mV hTT (.d (.one (.v (.bool false)))) (evb (decide_eq_false (by omega))) ?_
    refine mV hTT _ rfl ?_
    refine mV hTT _ rfl ?_
    refine mX (.d (.one (.v (.int .i64 (ByteArray.size (body b) : Int))))) (xLen (b := (body b)) rfl rfl rfl rfl Try.underlying9 rfl) ?_
    refine mV hTT (.d (.one (.v (.bool false)))) (evb (decide_eq_false (by omega))) ?_
    refine mV hTT _ rfl ?_
    refine mNil ?_
    refine tN ?_
    refine cF rfl ?_
    refine cSkip ?_
    refine tN ?_
    refine cSeq ?_
    refine cReg ?_
    refine mN hTT (.box 24 ([.v (.bool false), .v (.slice none 0 0)])) rfl rfl rfl ?_
    refine mNil ?_
    refine tN ?_
    refine cSeq ?_
    refine cSeq ?_
    refine cReg ?_
    refine mV hTT _ rfl ?_
    refine mNil ?_
    refine tN ?_
    refine cBlock ?_
    refine cLoop (ι := Nat) (fun (i : Nat) => ⟨76, [(0, .d (.one (.v (.string (body b))))), (2, .ptr 2 0), (3, .d (.one (.v (.int .i64 0)))), (4, .d (.one (.v (.bool true)))), (5, .ptr 5 0), (6, .d (.one (.v (.int .i64 ((i : Nat) : Int)))))], [(2, .box 24 ([.v (.bool false), .v (.slice none 0 0)])), (5, .box 24 (zn (3 * i) ((dvl (body b) i : Nat) : Int)))]⟩) (fun (i : Nat) => i ≤ (ByteArray.size (body b)) ∧ i ≤ q) (fun (i : Nat) => (ByteArray.size (body b)) - i) 0 (⟨Nat.zero_le _, Nat.zero_le _⟩) (wk (sl := [(0, .d (.one (.v (.string (body b))))), (2, .ptr 2 0), (3, .d (.one (.v (.int .i64 0)))), (4, .d (.one (.v (.bool true)))), (5, .ptr 5 0), (6, .d (.one (.v (.int .i64 ((0 : Nat) : Int)))))]) (hp := [(2, .box 24 ([.v (.bool false), .v (.slice none 0 0)])), (5, .box 24 (zn (3 * 0) ((dvl (body b) 0 : Nat) : Int)))]) rfl ⟨hs rfl, hs rfl, hs rfl, hs rfl, hs rfl, hs' rfl (le_int rfl), trivial⟩ ⟨ho rfl, ho' rfl (leo_nilz2), trivial⟩ rfl) ?_
    rintro i hI
    obtain ⟨hi, hiq⟩ : i ≤ (ByteArray.size (body b)) ∧ i ≤ q := hI
    show AW Try.prog _ _ ⟨76, [(0, .d (.one (.v (.string (body b))))), (2, .ptr 2 0), (3, .d (.one (.v (.int .i64 0)))), (4, .d (.one (.v (.bool true)))), (5, .ptr 5 0), (6, .d (.one (.v (.int .i64 ((i : Nat) : Int)))))], [(2, .box 24 ([.v (.bool false), .v (.slice none 0 0)])), (5, .box 24 (zn (3 * i) ((dvl (body b) i : Nat) : Int)))]⟩
    refine cSeq ?_
    refine cSeq ?_
    refine cReg ?_
    refine mV hTT _ rfl ?_
    refine mV hTT _ rfl ?_
    refine mX (.d (.one (.v (.int .i64 (ByteArray.size (body b) : Int))))) (xLen (b := (body b)) rfl rfl rfl rfl Try.underlying9 rfl) ?_
    refine mV hTT (.d (.one (.v (.bool (decide (((i : Nat) : Int) < (ByteArray.size (body b) : Int))))))) rfl ?_
    refine mNil ?_
    refine tN ?_
    refine cCond rfl (fun hc1 => ?_) (fun hc1 => ?_)
    · skip
      refine cSkip ?_
      refine tN ?_
      refine cBlock ?_
      refine cSeq ?_
      have hil : i < (ByteArray.size (body b)) := by have h0 := of_decide_eq_true hc1; omega
      refine cReg ?_
      refine mV hTT _ rfl ?_
      refine mV hTT _ rfl ?_
      refine mNil ?_
      refine tN ?_
      refine cSeq ?_
      refine cSeq ?_
      refine cReg ?_
      refine mV hTT _ rfl ?_
      refine mNil ?_
      refine tN ?_
      refine cBlock ?_
      refine cLoop (ι := Nat × Nat × Nat) (fun (p : Nat × Nat × Nat) => match p with | (k, n, p) => ⟨76, [(0, .d (.one (.v (.string (body b))))), (2, .ptr 2 0), (3, .d (.one (.v (.int .i64 0)))), (4, .d (.one (.v (.bool true)))), (5, .ptr 5 0), (6, .d (.one (.v (.int .i64 ((i + k : Nat) : Int))))), (7, .d (.one (.v (.int .i64 ((n : Nat) : Int))))), (8, .d (.one (.v (.int .i64 ((p : Nat) : Int))))), (9, .d (.one (.v (.int .i64 ((k : Nat) : Int)))))], [(2, .box 24 ([.v (.bool false), .v (.slice none 0 0)])), (5, .box 24 (zn (3 * i) ((dvl (body b) i : Nat) : Int)))]⟩) (fun (p : Nat × Nat × Nat) => match p with | (k, n, p) => k ≤ 9 ∧ i + k ≤ (ByteArray.size (body b)) ∧ p = 10 ^ k ∧ dvl (body b) (i + k) = dvl (body b) i * p + n ∧ n < p ∧ i + k ≤ q) (fun (p : Nat × Nat × Nat) => match p with | (k, n, p) => 9 - k) (0, 0, 1) (⟨by omega, by omega, rfl, by rw [Nat.mul_one]; rfl, by decide, by omega⟩) (wk (sl := [(0, .d (.one (.v (.string (body b))))), (2, .ptr 2 0), (3, .d (.one (.v (.int .i64 0)))), (4, .d (.one (.v (.bool true)))), (5, .ptr 5 0), (6, .d (.one (.v (.int .i64 ((i + 0 : Nat) : Int))))), (7, .d (.one (.v (.int .i64 ((0 : Nat) : Int))))), (8, .d (.one (.v (.int .i64 ((1 : Nat) : Int))))), (9, .d (.one (.v (.int .i64 ((0 : Nat) : Int)))))]) (hp := [(2, .box 24 ([.v (.bool false), .v (.slice none 0 0)])), (5, .box 24 (zn (3 * i) ((dvl (body b) i : Nat) : Int)))]) rfl ⟨hs rfl, hs rfl, hs rfl, hs rfl, hs rfl, hs rfl, hs rfl, hs rfl, hs rfl, trivial⟩ ⟨ho rfl, ho rfl, trivial⟩ rfl) ?_
      rintro ⟨k, n, p⟩ hI
      obtain ⟨hk, hks, hp, hdv, hnp, hkq⟩ : k ≤ 9 ∧ i + k ≤ (ByteArray.size (body b)) ∧ p = 10 ^ k ∧ dvl (body b) (i + k) = dvl (body b) i * p + n ∧ n < p ∧ i + k ≤ q := hI
      show AW Try.prog _ _ ⟨76, [(0, .d (.one (.v (.string (body b))))), (2, .ptr 2 0), (3, .d (.one (.v (.int .i64 0)))), (4, .d (.one (.v (.bool true)))), (5, .ptr 5 0), (6, .d (.one (.v (.int .i64 ((i + k : Nat) : Int))))), (7, .d (.one (.v (.int .i64 ((n : Nat) : Int))))), (8, .d (.one (.v (.int .i64 ((p : Nat) : Int))))), (9, .d (.one (.v (.int .i64 ((k : Nat) : Int)))))], [(2, .box 24 ([.v (.bool false), .v (.slice none 0 0)])), (5, .box 24 (zn (3 * i) ((dvl (body b) i : Nat) : Int)))]⟩
      refine cSeq ?_
      refine cSeq ?_
      by_cases hk9 : k < 9
      · skip
        by_cases hik : i + k < (ByteArray.size (body b))
        · skip
          refine cReg ?_
          refine mV hTT _ rfl ?_
          refine mV hTT (.d (.one (.v (.bool true)))) (evb (decide_eq_true (by omega))) ?_
          refine mV hTT _ rfl ?_
          refine mV hTT _ rfl ?_
          refine mV hTT _ rfl ?_
          refine mX (.d (.one (.v (.int .i64 (ByteArray.size (body b) : Int))))) (xLen (b := (body b)) rfl rfl rfl rfl Try.underlying9 rfl) ?_
          refine mV hTT (.d (.one (.v (.bool true)))) (evb (decide_eq_true (by omega))) ?_
          refine mV hTT _ rfl ?_
          refine mNil ?_
          refine tN ?_
          refine cT rfl ?_
          refine cSkip ?_
          refine tN ?_
          refine cSeq ?_
          refine cBlock ?_
          refine cSeq ?_
          refine cSeq ?_
          have hp8 : p ≤ 100000000 := by rw [hp]; exact (Nat.pow_le_pow_right (by decide) (by omega) : 10 ^ k ≤ 10 ^ 8)
          by_cases hq0 : (i + k) = q
          · skip
            have hlh : ¬ (48 ≤ sb (body b) (i + k) ∧ sb (body b) (i + k) ≤ 57) := by rw [hq0]; exact hq3
            by_cases hlo : sb (body b) (i + k) < 48
            · skip
              refine cReg ?_
              refine mV hTT _ rfl ?_
              refine mV hTT _ rfl ?_
              refine mX (.d (.one (.v (.int .u8 (sb (body b) (i + k) : Int))))) (xIx (b := (body b)) (z := ((i + k : Nat) : Int)) rfl Try.underlying9 rfl rfl (by omega) (by omega)) ?_
              refine mV hTT (.d (.one (.v (.bool true)))) (evb (decide_eq_true (by omega))) ?_
              refine mV hTT _ rfl ?_
              refine mG rfl rfl ?_
              refine mG rfl rfl ?_
              refine mG rfl rfl ?_
              refine mG rfl rfl ?_
              refine mV hTT _ rfl ?_
              refine mNil ?_
              refine tN ?_
              refine cT rfl ?_
              refine cSeq ?_
              refine cReg ?_
              refine mV hTT (.d (.agg ([.v (.bool false), .v (.slice none 0 0)]))) rfl ?_
              refine mS hTT 2 (.box 24 ([.v (.bool false), .v (.slice none 0 0)])) rfl ?_
              refine mV hTT _ rfl ?_
              refine mNil ?_
              refine tN ?_
              refine cRet ?_
              refine tR ?_
              refine bR ?_
              refine tR ?_
              refine tR ?_
              refine bR ?_
              refine tR ?_
              refine bR ?_
              refine tR ?_
              refine bR ?_
              refine tR ?_
              exact rQ rfl (AV.le.rfl)
            · skip
              refine cReg ?_
              refine mV hTT _ rfl ?_
              refine mV hTT _ rfl ?_
              refine mX (.d (.one (.v (.int .u8 (sb (body b) (i + k) : Int))))) (xIx (b := (body b)) (z := ((i + k : Nat) : Int)) rfl Try.underlying9 rfl rfl (by omega) (by omega)) ?_
              refine mV hTT (.d (.one (.v (.bool false)))) (evb (decide_eq_false (by omega))) ?_
              refine mV hTT _ rfl ?_
              refine mV hTT _ rfl ?_
              refine mV hTT _ rfl ?_
              refine mX (.d (.one (.v (.int .u8 (sb (body b) (i + k) : Int))))) (xIx (b := (body b)) (z := ((i + k : Nat) : Int)) rfl Try.underlying9 rfl rfl (by omega) (by omega)) ?_
              refine mV hTT (.d (.one (.v (.bool true)))) (evb (decide_eq_true (by omega))) ?_
              refine mV hTT _ rfl ?_
              refine mNil ?_
              refine tN ?_
              refine cT rfl ?_
              refine cSeq ?_
              refine cReg ?_
              refine mV hTT (.d (.agg ([.v (.bool false), .v (.slice none 0 0)]))) rfl ?_
              refine mS hTT 2 (.box 24 ([.v (.bool false), .v (.slice none 0 0)])) rfl ?_
              refine mV hTT _ rfl ?_
              refine mNil ?_
              refine tN ?_
              refine cRet ?_
              refine tR ?_
              refine bR ?_
              refine tR ?_
              refine tR ?_
              refine bR ?_
              refine tR ?_
              refine bR ?_
              refine tR ?_
              refine bR ?_
              refine tR ?_
              exact rQ rfl (AV.le.rfl)
          · skip
            have hdg : isDg (body b) (i + k) := hq2 _ (by omega)
            obtain ⟨hd1, hd2⟩ := hdg
            refine cReg ?_
            refine mV hTT _ rfl ?_
            refine mV hTT _ rfl ?_
            refine mX (.d (.one (.v (.int .u8 (sb (body b) (i + k) : Int))))) (xIx (b := (body b)) (z := ((i + k : Nat) : Int)) rfl Try.underlying9 rfl rfl (by omega) (by omega)) ?_
            refine mV hTT (.d (.one (.v (.bool false)))) (evb (decide_eq_false (by omega))) ?_
            refine mV hTT _ rfl ?_
            refine mV hTT _ rfl ?_
            refine mV hTT _ rfl ?_
            refine mX (.d (.one (.v (.int .u8 (sb (body b) (i + k) : Int))))) (xIx (b := (body b)) (z := ((i + k : Nat) : Int)) rfl Try.underlying9 rfl rfl (by omega) (by omega)) ?_
            refine mV hTT (.d (.one (.v (.bool false)))) (evb (decide_eq_false (by omega))) ?_
            refine mV hTT _ rfl ?_
            refine mNil ?_
            refine tN ?_
            refine cF rfl ?_
            refine cSkip ?_
            refine tN ?_
            refine cSeq ?_
            refine cReg ?_
            refine mV hTT _ rfl ?_
            refine mV hTT (.d (.one (.v (.int .i64 ((10 * n : Nat) : Int))))) (evi ((wr64 (by omega) (by omega)).trans (by omega))) ?_
            refine mV hTT _ rfl ?_
            refine mV hTT _ rfl ?_
            refine mX (.d (.one (.v (.int .u8 (sb (body b) (i + k) : Int))))) (xIx (b := (body b)) (z := ((i + k : Nat) : Int)) rfl Try.underlying9 rfl rfl (by omega) (by omega)) ?_
            refine mV hTT (.d (.one (.v (.int .u8 (((sb (body b) (i + k) - 48) : Nat) : Int))))) (evi ((wr8 (by omega) (by omega)).trans (by omega))) ?_
            refine mV hTT (.d (.one (.v (.int .i64 (((sb (body b) (i + k) - 48) : Nat) : Int))))) (evi (wr64 (by omega) (by omega))) ?_
            refine mV hTT (.d (.one (.v (.int .i64 ((n * 10 + (sb (body b) (i + k) - 48) : Nat) : Int))))) (evi ((wr64 (by omega) (by omega)).trans (by omega))) ?_
            refine mV hTT _ rfl ?_
            refine mV hTT (.d (.one (.v (.int .i64 ((p * 10 : Nat) : Int))))) (evi ((wr64 (by omega) (by omega)).trans (by omega))) ?_
            refine mV hTT _ rfl ?_
            refine mV hTT _ rfl ?_
            refine mNil ?_
            refine tN ?_
            refine cReg ?_
            refine mV hTT _ rfl ?_
            refine mV hTT (.d (.one (.v (.int .i64 (IntKind.i64.wrap (((i + k : Nat) : Int) + 1)))))) rfl ?_
            refine mV hTT _ rfl ?_
            refine mNil ?_
            refine bN ?_
            refine tN ?_
            refine cReg ?_
            refine mV hTT _ rfl ?_
            refine mV hTT (.d (.one (.v (.int .i64 (IntKind.i64.wrap (((k : Nat) : Int) + 1)))))) rfl ?_
            refine mV hTT _ rfl ?_
            refine mNil ?_
            exact ⟨((k + 1), (n * 10 + (sb (body b) (i + k) - 48)), (p * 10)), ⟨by omega, by omega, by rw [hp, Nat.pow_succ], by rw [dvl_split, hdv, Nat.add_mul, Nat.mul_assoc, Nat.add_assoc], by omega, by omega⟩, by show 9 - (k + 1) < 9 - k; omega, wk (sl := [(0, .d (.one (.v (.string (body b))))), (2, .ptr 2 0), (3, .d (.one (.v (.int .i64 0)))), (4, .d (.one (.v (.bool true)))), (5, .ptr 5 0), (6, .d (.one (.v (.int .i64 ((i + (k + 1) : Nat) : Int))))), (7, .d (.one (.v (.int .i64 (((n * 10 + (sb (body b) (i + k) - 48)) : Nat) : Int))))), (8, .d (.one (.v (.int .i64 (((p * 10) : Nat) : Int))))), (9, .d (.one (.v (.int .i64 (((k + 1) : Nat) : Int)))))]) (hp := [(2, .box 24 ([.v (.bool false), .v (.slice none 0 0)])), (5, .box 24 (zn (3 * i) ((dvl (body b) i : Nat) : Int)))]) rfl ⟨hs rfl, hs rfl, hs rfl, hs rfl, hs rfl, hs' rfl (le_int ((wr64 (by omega) (by omega)).trans (by omega))), hs rfl, hs rfl, hs' rfl (le_int ((wr64 (by omega) (by omega)).trans (by omega))), trivial⟩ ⟨ho rfl, ho rfl, trivial⟩ rfl⟩
        · skip
          refine cReg ?_
          refine mV hTT _ rfl ?_
          refine mV hTT (.d (.one (.v (.bool true)))) (evb (decide_eq_true (by omega))) ?_
          refine mV hTT _ rfl ?_
          refine mV hTT _ rfl ?_
          refine mV hTT _ rfl ?_
          refine mX (.d (.one (.v (.int .i64 (ByteArray.size (body b) : Int))))) (xLen (b := (body b)) rfl rfl rfl rfl Try.underlying9 rfl) ?_
          refine mV hTT (.d (.one (.v (.bool false)))) (evb (decide_eq_false (by omega))) ?_
          refine mV hTT _ rfl ?_
          refine mNil ?_
          refine tN ?_
          refine cF rfl ?_
          refine cExit ?_
          refine tE ?_
          refine tE ?_
          refine bE ?_
          refine tN ?_
          have hk1 : 1 ≤ k := by omega
          have hp9 : p ≤ 1000000000 := by rw [hp]; exact (Nat.pow_le_pow_right (by decide) hk : 10 ^ k ≤ 10 ^ 9)
          refine cDrawK hTT 7 (by kernel_rfl) (by kernel_rfl) (by kernel_rfl) ?_
          refine .cons (OpS.V (.d (.agg (zn (3 * i) ((dvl (body b) i : Nat) : Int)))) rfl) ?_
          refine .cons (OpS.V _ rfl) ?_
          refine .cons (OpS.C0 (aOf (n := ((p : Nat) : Int)) (by omega) (by omega)) rfl rfl rfl) ?_
          refine .cons (OpS.C0 (aMul (isz (3 * i) ((dvl (body b) i : Nat) : Int)) (isz 2 ((p : Nat) : Int)) (M := ((3 * i) + 2)) (by omega) (by omega) (by decide)) rfl rfl rfl) ?_
          refine .cons (OpS.V _ rfl) ?_
          refine .cons (OpS.C0 (aOf (n := ((n : Nat) : Int)) (by omega) (by omega)) rfl rfl rfl) ?_
          refine .cons (OpS.C0 (aAdd (isz ((3 * i) + 2) (((dvl (body b) i : Nat) : Int) * ((p : Nat) : Int))) (isz 2 ((n : Nat) : Int)) (M := (max ((3 * i) + 2) 2 + 1)) (by omega) (by omega) (by decide)) rfl rfl rfl) ?_
          refine .nil ?_
          refine mS hTT 5 (.box 24 (zn (max ((3 * i) + 2) 2 + 1) ((((dvl (body b) i : Nat) : Int) * ((p : Nat) : Int)) + ((n : Nat) : Int)))) rfl ?_
          refine mNil ?_
          refine bN ?_
          exact ⟨(i + k), ⟨by omega, by omega⟩, by omega, wk (sl := [(0, .d (.one (.v (.string (body b))))), (2, .ptr 2 0), (3, .d (.one (.v (.int .i64 0)))), (4, .d (.one (.v (.bool true)))), (5, .ptr 5 0), (6, .d (.one (.v (.int .i64 (((i + k) : Nat) : Int)))))]) (hp := [(2, .box 24 ([.v (.bool false), .v (.slice none 0 0)])), (5, .box 24 (zn (3 * (i + k)) ((dvl (body b) (i + k) : Nat) : Int)))]) rfl ⟨hs rfl, hs rfl, hs rfl, hs rfl, hs rfl, hs rfl, trivial⟩ ⟨ho rfl, ho' rfl (leo_zn (by omega) (by rw [hdv, Int.natCast_add, Int.natCast_mul])), trivial⟩ rfl⟩
      · skip
        refine cReg ?_
        refine mV hTT _ rfl ?_
        refine mV hTT (.d (.one (.v (.bool false)))) (evb (decide_eq_false (by omega))) ?_
        refine mV hTT _ rfl ?_
        refine mG rfl rfl ?_
        refine mG rfl rfl ?_
        refine mG rfl rfl ?_
        refine mG rfl rfl ?_
        refine mV hTT _ rfl ?_
        refine mNil ?_
        refine tN ?_
        refine cF rfl ?_
        refine cExit ?_
        refine tE ?_
        refine tE ?_
        refine bE ?_
        refine tN ?_
        have hk1 : 1 ≤ k := by omega
        have hp9 : p ≤ 1000000000 := by rw [hp]; exact (Nat.pow_le_pow_right (by decide) hk : 10 ^ k ≤ 10 ^ 9)
        refine cDrawK hTT 7 (by kernel_rfl) (by kernel_rfl) (by kernel_rfl) ?_
        refine .cons (OpS.V (.d (.agg (zn (3 * i) ((dvl (body b) i : Nat) : Int)))) rfl) ?_
        refine .cons (OpS.V _ rfl) ?_
        refine .cons (OpS.C0 (aOf (n := ((p : Nat) : Int)) (by omega) (by omega)) rfl rfl rfl) ?_
        refine .cons (OpS.C0 (aMul (isz (3 * i) ((dvl (body b) i : Nat) : Int)) (isz 2 ((p : Nat) : Int)) (M := ((3 * i) + 2)) (by omega) (by omega) (by decide)) rfl rfl rfl) ?_
        refine .cons (OpS.V _ rfl) ?_
        refine .cons (OpS.C0 (aOf (n := ((n : Nat) : Int)) (by omega) (by omega)) rfl rfl rfl) ?_
        refine .cons (OpS.C0 (aAdd (isz ((3 * i) + 2) (((dvl (body b) i : Nat) : Int) * ((p : Nat) : Int))) (isz 2 ((n : Nat) : Int)) (M := (max ((3 * i) + 2) 2 + 1)) (by omega) (by omega) (by decide)) rfl rfl rfl) ?_
        refine .nil ?_
        refine mS hTT 5 (.box 24 (zn (max ((3 * i) + 2) 2 + 1) ((((dvl (body b) i : Nat) : Int) * ((p : Nat) : Int)) + ((n : Nat) : Int)))) rfl ?_
        refine mNil ?_
        refine bN ?_
        exact ⟨(i + k), ⟨by omega, by omega⟩, by omega, wk (sl := [(0, .d (.one (.v (.string (body b))))), (2, .ptr 2 0), (3, .d (.one (.v (.int .i64 0)))), (4, .d (.one (.v (.bool true)))), (5, .ptr 5 0), (6, .d (.one (.v (.int .i64 (((i + k) : Nat) : Int)))))]) (hp := [(2, .box 24 ([.v (.bool false), .v (.slice none 0 0)])), (5, .box 24 (zn (3 * (i + k)) ((dvl (body b) (i + k) : Nat) : Int)))]) rfl ⟨hs rfl, hs rfl, hs rfl, hs rfl, hs rfl, hs rfl, trivial⟩ ⟨ho rfl, ho' rfl (leo_zn (by omega) (by rw [hdv, Int.natCast_add, Int.natCast_mul])), trivial⟩ rfl⟩
    · skip
      refine cExit ?_
      refine tE ?_
      refine tE ?_
      refine bE ?_
      refine tN ?_
      refine cSeq ?_
      refine cSeq ?_
      exfalso
      have h0 := of_decide_eq_false hc1
      omega
  · skip
    have hng : isneg b = false := decide_eq_false hn
    have hbd : body b = b := by unfold body; rw [hng]; rfl
    by_cases hb0 : 0 < b.size
    · skip
      refine cReg ?_
      refine mV hTT _ rfl ?_
      refine mV hTT (.d (.one (.v (.bool true)))) (evb (str_ne hb0)) ?_
      refine mV hTT _ rfl ?_
      refine mV hTT _ rfl ?_
      refine mX (.d (.one (.v (.int .u8 (sb b 0 : Int))))) (xIx (b := b) (z := 0) rfl Try.underlying9 rfl rfl (by decide) (by omega)) ?_
      refine mV hTT (.d (.one (.v (.bool false)))) (evb (beq_eq_false_iff_ne.2 fun e => hn ⟨hb0, by omega⟩)) ?_
      refine mV hTT _ rfl ?_
      refine mNil ?_
      refine tN ?_
      refine cF rfl ?_
      refine cSkip ?_
      refine tN ?_
      refine cSeq ?_
      refine cSeq ?_
      refine cView 0 (.d (.one (.v (.string (body b))))) rfl (le_str hbd.symm) ?_
      refine cReg ?_
      refine mV hTT _ rfl ?_
      refine mX (.d (.one (.v (.int .i64 (ByteArray.size (body b) : Int))))) (xLen (b := (body b)) rfl rfl rfl rfl Try.underlying9 rfl) ?_
      refine mV hTT (.d (.one (.v (.bool false)))) (evb (decide_eq_false (by omega))) ?_
      refine mV hTT _ rfl ?_
      refine mV hTT _ rfl ?_
      refine mX (.d (.one (.v (.int .i64 (ByteArray.size (body b) : Int))))) (xLen (b := (body b)) rfl rfl rfl rfl Try.underlying9 rfl) ?_
      refine mV hTT (.d (.one (.v (.bool false)))) (evb (decide_eq_false (by omega))) ?_
      refine mV hTT _ rfl ?_
      refine mNil ?_
      refine tN ?_
      refine cF rfl ?_
      refine cSkip ?_
      refine tN ?_
      refine cSeq ?_
      refine cReg ?_
      refine mN hTT (.box 24 ([.v (.bool false), .v (.slice none 0 0)])) rfl rfl rfl ?_
      refine mNil ?_
      refine tN ?_
      refine cSeq ?_
      refine cSeq ?_
      refine cReg ?_
      refine mV hTT _ rfl ?_
      refine mNil ?_
      refine tN ?_
      refine cBlock ?_
      refine cLoop (ι := Nat) (fun (i : Nat) => ⟨76, [(0, .d (.one (.v (.string (body b))))), (2, .ptr 2 0), (3, .d (.one (.v (.int .i64 0)))), (4, .d (.one (.v (.bool false)))), (5, .ptr 5 0), (6, .d (.one (.v (.int .i64 ((i : Nat) : Int)))))], [(2, .box 24 ([.v (.bool false), .v (.slice none 0 0)])), (5, .box 24 (zn (3 * i) ((dvl (body b) i : Nat) : Int)))]⟩) (fun (i : Nat) => i ≤ (ByteArray.size (body b)) ∧ i ≤ q) (fun (i : Nat) => (ByteArray.size (body b)) - i) 0 (⟨Nat.zero_le _, Nat.zero_le _⟩) (wk (sl := [(0, .d (.one (.v (.string (body b))))), (2, .ptr 2 0), (3, .d (.one (.v (.int .i64 0)))), (4, .d (.one (.v (.bool false)))), (5, .ptr 5 0), (6, .d (.one (.v (.int .i64 ((0 : Nat) : Int)))))]) (hp := [(2, .box 24 ([.v (.bool false), .v (.slice none 0 0)])), (5, .box 24 (zn (3 * 0) ((dvl (body b) 0 : Nat) : Int)))]) rfl ⟨hs rfl, hs rfl, hs rfl, hs rfl, hs rfl, hs' rfl (le_int rfl), trivial⟩ ⟨ho rfl, ho' rfl (leo_nilz2), trivial⟩ rfl) ?_
      rintro i hI
      obtain ⟨hi, hiq⟩ : i ≤ (ByteArray.size (body b)) ∧ i ≤ q := hI
      show AW Try.prog _ _ ⟨76, [(0, .d (.one (.v (.string (body b))))), (2, .ptr 2 0), (3, .d (.one (.v (.int .i64 0)))), (4, .d (.one (.v (.bool false)))), (5, .ptr 5 0), (6, .d (.one (.v (.int .i64 ((i : Nat) : Int)))))], [(2, .box 24 ([.v (.bool false), .v (.slice none 0 0)])), (5, .box 24 (zn (3 * i) ((dvl (body b) i : Nat) : Int)))]⟩
      refine cSeq ?_
      refine cSeq ?_
      refine cReg ?_
      refine mV hTT _ rfl ?_
      refine mV hTT _ rfl ?_
      refine mX (.d (.one (.v (.int .i64 (ByteArray.size (body b) : Int))))) (xLen (b := (body b)) rfl rfl rfl rfl Try.underlying9 rfl) ?_
      refine mV hTT (.d (.one (.v (.bool (decide (((i : Nat) : Int) < (ByteArray.size (body b) : Int))))))) rfl ?_
      refine mNil ?_
      refine tN ?_
      refine cCond rfl (fun hc2 => ?_) (fun hc2 => ?_)
      · skip
        refine cSkip ?_
        refine tN ?_
        refine cBlock ?_
        refine cSeq ?_
        have hil : i < (ByteArray.size (body b)) := by have h0 := of_decide_eq_true hc2; omega
        refine cReg ?_
        refine mV hTT _ rfl ?_
        refine mV hTT _ rfl ?_
        refine mNil ?_
        refine tN ?_
        refine cSeq ?_
        refine cSeq ?_
        refine cReg ?_
        refine mV hTT _ rfl ?_
        refine mNil ?_
        refine tN ?_
        refine cBlock ?_
        refine cLoop (ι := Nat × Nat × Nat) (fun (p : Nat × Nat × Nat) => match p with | (k, n, p) => ⟨76, [(0, .d (.one (.v (.string (body b))))), (2, .ptr 2 0), (3, .d (.one (.v (.int .i64 0)))), (4, .d (.one (.v (.bool false)))), (5, .ptr 5 0), (6, .d (.one (.v (.int .i64 ((i + k : Nat) : Int))))), (7, .d (.one (.v (.int .i64 ((n : Nat) : Int))))), (8, .d (.one (.v (.int .i64 ((p : Nat) : Int))))), (9, .d (.one (.v (.int .i64 ((k : Nat) : Int)))))], [(2, .box 24 ([.v (.bool false), .v (.slice none 0 0)])), (5, .box 24 (zn (3 * i) ((dvl (body b) i : Nat) : Int)))]⟩) (fun (p : Nat × Nat × Nat) => match p with | (k, n, p) => k ≤ 9 ∧ i + k ≤ (ByteArray.size (body b)) ∧ p = 10 ^ k ∧ dvl (body b) (i + k) = dvl (body b) i * p + n ∧ n < p ∧ i + k ≤ q) (fun (p : Nat × Nat × Nat) => match p with | (k, n, p) => 9 - k) (0, 0, 1) (⟨by omega, by omega, rfl, by rw [Nat.mul_one]; rfl, by decide, by omega⟩) (wk (sl := [(0, .d (.one (.v (.string (body b))))), (2, .ptr 2 0), (3, .d (.one (.v (.int .i64 0)))), (4, .d (.one (.v (.bool false)))), (5, .ptr 5 0), (6, .d (.one (.v (.int .i64 ((i + 0 : Nat) : Int))))), (7, .d (.one (.v (.int .i64 ((0 : Nat) : Int))))), (8, .d (.one (.v (.int .i64 ((1 : Nat) : Int))))), (9, .d (.one (.v (.int .i64 ((0 : Nat) : Int)))))]) (hp := [(2, .box 24 ([.v (.bool false), .v (.slice none 0 0)])), (5, .box 24 (zn (3 * i) ((dvl (body b) i : Nat) : Int)))]) rfl ⟨hs rfl, hs rfl, hs rfl, hs rfl, hs rfl, hs rfl, hs rfl, hs rfl, hs rfl, trivial⟩ ⟨ho rfl, ho rfl, trivial⟩ rfl) ?_
        rintro ⟨k, n, p⟩ hI
        obtain ⟨hk, hks, hp, hdv, hnp, hkq⟩ : k ≤ 9 ∧ i + k ≤ (ByteArray.size (body b)) ∧ p = 10 ^ k ∧ dvl (body b) (i + k) = dvl (body b) i * p + n ∧ n < p ∧ i + k ≤ q := hI
        show AW Try.prog _ _ ⟨76, [(0, .d (.one (.v (.string (body b))))), (2, .ptr 2 0), (3, .d (.one (.v (.int .i64 0)))), (4, .d (.one (.v (.bool false)))), (5, .ptr 5 0), (6, .d (.one (.v (.int .i64 ((i + k : Nat) : Int))))), (7, .d (.one (.v (.int .i64 ((n : Nat) : Int))))), (8, .d (.one (.v (.int .i64 ((p : Nat) : Int))))), (9, .d (.one (.v (.int .i64 ((k : Nat) : Int)))))], [(2, .box 24 ([.v (.bool false), .v (.slice none 0 0)])), (5, .box 24 (zn (3 * i) ((dvl (body b) i : Nat) : Int)))]⟩
        refine cSeq ?_
        refine cSeq ?_
        by_cases hk9 : k < 9
        · skip
          by_cases hik : i + k < (ByteArray.size (body b))
          · skip
            refine cReg ?_
            refine mV hTT _ rfl ?_
            refine mV hTT (.d (.one (.v (.bool true)))) (evb (decide_eq_true (by omega))) ?_
            refine mV hTT _ rfl ?_
            refine mV hTT _ rfl ?_
            refine mV hTT _ rfl ?_
            refine mX (.d (.one (.v (.int .i64 (ByteArray.size (body b) : Int))))) (xLen (b := (body b)) rfl rfl rfl rfl Try.underlying9 rfl) ?_
            refine mV hTT (.d (.one (.v (.bool true)))) (evb (decide_eq_true (by omega))) ?_
            refine mV hTT _ rfl ?_
            refine mNil ?_
            refine tN ?_
            refine cT rfl ?_
            refine cSkip ?_
            refine tN ?_
            refine cSeq ?_
            refine cBlock ?_
            refine cSeq ?_
            refine cSeq ?_
            have hp8 : p ≤ 100000000 := by rw [hp]; exact (Nat.pow_le_pow_right (by decide) (by omega) : 10 ^ k ≤ 10 ^ 8)
            by_cases hq0 : (i + k) = q
            · skip
              have hlh : ¬ (48 ≤ sb (body b) (i + k) ∧ sb (body b) (i + k) ≤ 57) := by rw [hq0]; exact hq3
              by_cases hlo : sb (body b) (i + k) < 48
              · skip
                refine cReg ?_
                refine mV hTT _ rfl ?_
                refine mV hTT _ rfl ?_
                refine mX (.d (.one (.v (.int .u8 (sb (body b) (i + k) : Int))))) (xIx (b := (body b)) (z := ((i + k : Nat) : Int)) rfl Try.underlying9 rfl rfl (by omega) (by omega)) ?_
                refine mV hTT (.d (.one (.v (.bool true)))) (evb (decide_eq_true (by omega))) ?_
                refine mV hTT _ rfl ?_
                refine mG rfl rfl ?_
                refine mG rfl rfl ?_
                refine mG rfl rfl ?_
                refine mG rfl rfl ?_
                refine mV hTT _ rfl ?_
                refine mNil ?_
                refine tN ?_
                refine cT rfl ?_
                refine cSeq ?_
                refine cReg ?_
                refine mV hTT (.d (.agg ([.v (.bool false), .v (.slice none 0 0)]))) rfl ?_
                refine mS hTT 2 (.box 24 ([.v (.bool false), .v (.slice none 0 0)])) rfl ?_
                refine mV hTT _ rfl ?_
                refine mNil ?_
                refine tN ?_
                refine cRet ?_
                refine tR ?_
                refine bR ?_
                refine tR ?_
                refine tR ?_
                refine bR ?_
                refine tR ?_
                refine bR ?_
                refine tR ?_
                refine bR ?_
                refine tR ?_
                exact rQ rfl (AV.le.rfl)
              · skip
                refine cReg ?_
                refine mV hTT _ rfl ?_
                refine mV hTT _ rfl ?_
                refine mX (.d (.one (.v (.int .u8 (sb (body b) (i + k) : Int))))) (xIx (b := (body b)) (z := ((i + k : Nat) : Int)) rfl Try.underlying9 rfl rfl (by omega) (by omega)) ?_
                refine mV hTT (.d (.one (.v (.bool false)))) (evb (decide_eq_false (by omega))) ?_
                refine mV hTT _ rfl ?_
                refine mV hTT _ rfl ?_
                refine mV hTT _ rfl ?_
                refine mX (.d (.one (.v (.int .u8 (sb (body b) (i + k) : Int))))) (xIx (b := (body b)) (z := ((i + k : Nat) : Int)) rfl Try.underlying9 rfl rfl (by omega) (by omega)) ?_
                refine mV hTT (.d (.one (.v (.bool true)))) (evb (decide_eq_true (by omega))) ?_
                refine mV hTT _ rfl ?_
                refine mNil ?_
                refine tN ?_
                refine cT rfl ?_
                refine cSeq ?_
                refine cReg ?_
                refine mV hTT (.d (.agg ([.v (.bool false), .v (.slice none 0 0)]))) rfl ?_
                refine mS hTT 2 (.box 24 ([.v (.bool false), .v (.slice none 0 0)])) rfl ?_
                refine mV hTT _ rfl ?_
                refine mNil ?_
                refine tN ?_
                refine cRet ?_
                refine tR ?_
                refine bR ?_
                refine tR ?_
                refine tR ?_
                refine bR ?_
                refine tR ?_
                refine bR ?_
                refine tR ?_
                refine bR ?_
                refine tR ?_
                exact rQ rfl (AV.le.rfl)
            · skip
              have hdg : isDg (body b) (i + k) := hq2 _ (by omega)
              obtain ⟨hd1, hd2⟩ := hdg
              refine cReg ?_
              refine mV hTT _ rfl ?_
              refine mV hTT _ rfl ?_
              refine mX (.d (.one (.v (.int .u8 (sb (body b) (i + k) : Int))))) (xIx (b := (body b)) (z := ((i + k : Nat) : Int)) rfl Try.underlying9 rfl rfl (by omega) (by omega)) ?_
              refine mV hTT (.d (.one (.v (.bool false)))) (evb (decide_eq_false (by omega))) ?_
              refine mV hTT _ rfl ?_
              refine mV hTT _ rfl ?_
              refine mV hTT _ rfl ?_
              refine mX (.d (.one (.v (.int .u8 (sb (body b) (i + k) : Int))))) (xIx (b := (body b)) (z := ((i + k : Nat) : Int)) rfl Try.underlying9 rfl rfl (by omega) (by omega)) ?_
              refine mV hTT (.d (.one (.v (.bool false)))) (evb (decide_eq_false (by omega))) ?_
              refine mV hTT _ rfl ?_
              refine mNil ?_
              refine tN ?_
              refine cF rfl ?_
              refine cSkip ?_
              refine tN ?_
              refine cSeq ?_
              refine cReg ?_
              refine mV hTT _ rfl ?_
              refine mV hTT (.d (.one (.v (.int .i64 ((10 * n : Nat) : Int))))) (evi ((wr64 (by omega) (by omega)).trans (by omega))) ?_
              refine mV hTT _ rfl ?_
              refine mV hTT _ rfl ?_
              refine mX (.d (.one (.v (.int .u8 (sb (body b) (i + k) : Int))))) (xIx (b := (body b)) (z := ((i + k : Nat) : Int)) rfl Try.underlying9 rfl rfl (by omega) (by omega)) ?_
              refine mV hTT (.d (.one (.v (.int .u8 (((sb (body b) (i + k) - 48) : Nat) : Int))))) (evi ((wr8 (by omega) (by omega)).trans (by omega))) ?_
              refine mV hTT (.d (.one (.v (.int .i64 (((sb (body b) (i + k) - 48) : Nat) : Int))))) (evi (wr64 (by omega) (by omega))) ?_
              refine mV hTT (.d (.one (.v (.int .i64 ((n * 10 + (sb (body b) (i + k) - 48) : Nat) : Int))))) (evi ((wr64 (by omega) (by omega)).trans (by omega))) ?_
              refine mV hTT _ rfl ?_
              refine mV hTT (.d (.one (.v (.int .i64 ((p * 10 : Nat) : Int))))) (evi ((wr64 (by omega) (by omega)).trans (by omega))) ?_
              refine mV hTT _ rfl ?_
              refine mV hTT _ rfl ?_
              refine mNil ?_
              refine tN ?_
              refine cReg ?_
              refine mV hTT _ rfl ?_
              refine mV hTT (.d (.one (.v (.int .i64 (IntKind.i64.wrap (((i + k : Nat) : Int) + 1)))))) rfl ?_
              refine mV hTT _ rfl ?_
              refine mNil ?_
              refine bN ?_
              refine tN ?_
              refine cReg ?_
              refine mV hTT _ rfl ?_
              refine mV hTT (.d (.one (.v (.int .i64 (IntKind.i64.wrap (((k : Nat) : Int) + 1)))))) rfl ?_
              refine mV hTT _ rfl ?_
              refine mNil ?_
              exact ⟨((k + 1), (n * 10 + (sb (body b) (i + k) - 48)), (p * 10)), ⟨by omega, by omega, by rw [hp, Nat.pow_succ], by rw [dvl_split, hdv, Nat.add_mul, Nat.mul_assoc, Nat.add_assoc], by omega, by omega⟩, by show 9 - (k + 1) < 9 - k; omega, wk (sl := [(0, .d (.one (.v (.string (body b))))), (2, .ptr 2 0), (3, .d (.one (.v (.int .i64 0)))), (4, .d (.one (.v (.bool false)))), (5, .ptr 5 0), (6, .d (.one (.v (.int .i64 ((i + (k + 1) : Nat) : Int))))), (7, .d (.one (.v (.int .i64 (((n * 10 + (sb (body b) (i + k) - 48)) : Nat) : Int))))), (8, .d (.one (.v (.int .i64 (((p * 10) : Nat) : Int))))), (9, .d (.one (.v (.int .i64 (((k + 1) : Nat) : Int)))))]) (hp := [(2, .box 24 ([.v (.bool false), .v (.slice none 0 0)])), (5, .box 24 (zn (3 * i) ((dvl (body b) i : Nat) : Int)))]) rfl ⟨hs rfl, hs rfl, hs rfl, hs rfl, hs rfl, hs' rfl (le_int ((wr64 (by omega) (by omega)).trans (by omega))), hs rfl, hs rfl, hs' rfl (le_int ((wr64 (by omega) (by omega)).trans (by omega))), trivial⟩ ⟨ho rfl, ho rfl, trivial⟩ rfl⟩
          · skip
            refine cReg ?_
            refine mV hTT _ rfl ?_
            refine mV hTT (.d (.one (.v (.bool true)))) (evb (decide_eq_true (by omega))) ?_
            refine mV hTT _ rfl ?_
            refine mV hTT _ rfl ?_
            refine mV hTT _ rfl ?_
            refine mX (.d (.one (.v (.int .i64 (ByteArray.size (body b) : Int))))) (xLen (b := (body b)) rfl rfl rfl rfl Try.underlying9 rfl) ?_
            refine mV hTT (.d (.one (.v (.bool false)))) (evb (decide_eq_false (by omega))) ?_
            refine mV hTT _ rfl ?_
            refine mNil ?_
            refine tN ?_
            refine cF rfl ?_
            refine cExit ?_
            refine tE ?_
            refine tE ?_
            refine bE ?_
            refine tN ?_
            have hk1 : 1 ≤ k := by omega
            have hp9 : p ≤ 1000000000 := by rw [hp]; exact (Nat.pow_le_pow_right (by decide) hk : 10 ^ k ≤ 10 ^ 9)
            refine cDrawK hTT 7 (by kernel_rfl) (by kernel_rfl) (by kernel_rfl) ?_
            refine .cons (OpS.V (.d (.agg (zn (3 * i) ((dvl (body b) i : Nat) : Int)))) rfl) ?_
            refine .cons (OpS.V _ rfl) ?_
            refine .cons (OpS.C0 (aOf (n := ((p : Nat) : Int)) (by omega) (by omega)) rfl rfl rfl) ?_
            refine .cons (OpS.C0 (aMul (isz (3 * i) ((dvl (body b) i : Nat) : Int)) (isz 2 ((p : Nat) : Int)) (M := ((3 * i) + 2)) (by omega) (by omega) (by decide)) rfl rfl rfl) ?_
            refine .cons (OpS.V _ rfl) ?_
            refine .cons (OpS.C0 (aOf (n := ((n : Nat) : Int)) (by omega) (by omega)) rfl rfl rfl) ?_
            refine .cons (OpS.C0 (aAdd (isz ((3 * i) + 2) (((dvl (body b) i : Nat) : Int) * ((p : Nat) : Int))) (isz 2 ((n : Nat) : Int)) (M := (max ((3 * i) + 2) 2 + 1)) (by omega) (by omega) (by decide)) rfl rfl rfl) ?_
            refine .nil ?_
            refine mS hTT 5 (.box 24 (zn (max ((3 * i) + 2) 2 + 1) ((((dvl (body b) i : Nat) : Int) * ((p : Nat) : Int)) + ((n : Nat) : Int)))) rfl ?_
            refine mNil ?_
            refine bN ?_
            exact ⟨(i + k), ⟨by omega, by omega⟩, by omega, wk (sl := [(0, .d (.one (.v (.string (body b))))), (2, .ptr 2 0), (3, .d (.one (.v (.int .i64 0)))), (4, .d (.one (.v (.bool false)))), (5, .ptr 5 0), (6, .d (.one (.v (.int .i64 (((i + k) : Nat) : Int)))))]) (hp := [(2, .box 24 ([.v (.bool false), .v (.slice none 0 0)])), (5, .box 24 (zn (3 * (i + k)) ((dvl (body b) (i + k) : Nat) : Int)))]) rfl ⟨hs rfl, hs rfl, hs rfl, hs rfl, hs rfl, hs rfl, trivial⟩ ⟨ho rfl, ho' rfl (leo_zn (by omega) (by rw [hdv, Int.natCast_add, Int.natCast_mul])), trivial⟩ rfl⟩
        · skip
          refine cReg ?_
          refine mV hTT _ rfl ?_
          refine mV hTT (.d (.one (.v (.bool false)))) (evb (decide_eq_false (by omega))) ?_
          refine mV hTT _ rfl ?_
          refine mG rfl rfl ?_
          refine mG rfl rfl ?_
          refine mG rfl rfl ?_
          refine mG rfl rfl ?_
          refine mV hTT _ rfl ?_
          refine mNil ?_
          refine tN ?_
          refine cF rfl ?_
          refine cExit ?_
          refine tE ?_
          refine tE ?_
          refine bE ?_
          refine tN ?_
          have hk1 : 1 ≤ k := by omega
          have hp9 : p ≤ 1000000000 := by rw [hp]; exact (Nat.pow_le_pow_right (by decide) hk : 10 ^ k ≤ 10 ^ 9)
          refine cDrawK hTT 7 (by kernel_rfl) (by kernel_rfl) (by kernel_rfl) ?_
          refine .cons (OpS.V (.d (.agg (zn (3 * i) ((dvl (body b) i : Nat) : Int)))) rfl) ?_
          refine .cons (OpS.V _ rfl) ?_
          refine .cons (OpS.C0 (aOf (n := ((p : Nat) : Int)) (by omega) (by omega)) rfl rfl rfl) ?_
          refine .cons (OpS.C0 (aMul (isz (3 * i) ((dvl (body b) i : Nat) : Int)) (isz 2 ((p : Nat) : Int)) (M := ((3 * i) + 2)) (by omega) (by omega) (by decide)) rfl rfl rfl) ?_
          refine .cons (OpS.V _ rfl) ?_
          refine .cons (OpS.C0 (aOf (n := ((n : Nat) : Int)) (by omega) (by omega)) rfl rfl rfl) ?_
          refine .cons (OpS.C0 (aAdd (isz ((3 * i) + 2) (((dvl (body b) i : Nat) : Int) * ((p : Nat) : Int))) (isz 2 ((n : Nat) : Int)) (M := (max ((3 * i) + 2) 2 + 1)) (by omega) (by omega) (by decide)) rfl rfl rfl) ?_
          refine .nil ?_
          refine mS hTT 5 (.box 24 (zn (max ((3 * i) + 2) 2 + 1) ((((dvl (body b) i : Nat) : Int) * ((p : Nat) : Int)) + ((n : Nat) : Int)))) rfl ?_
          refine mNil ?_
          refine bN ?_
          exact ⟨(i + k), ⟨by omega, by omega⟩, by omega, wk (sl := [(0, .d (.one (.v (.string (body b))))), (2, .ptr 2 0), (3, .d (.one (.v (.int .i64 0)))), (4, .d (.one (.v (.bool false)))), (5, .ptr 5 0), (6, .d (.one (.v (.int .i64 (((i + k) : Nat) : Int)))))]) (hp := [(2, .box 24 ([.v (.bool false), .v (.slice none 0 0)])), (5, .box 24 (zn (3 * (i + k)) ((dvl (body b) (i + k) : Nat) : Int)))]) rfl ⟨hs rfl, hs rfl, hs rfl, hs rfl, hs rfl, hs rfl, trivial⟩ ⟨ho rfl, ho' rfl (leo_zn (by omega) (by rw [hdv, Int.natCast_add, Int.natCast_mul])), trivial⟩ rfl⟩
      · skip
        refine cExit ?_
        refine tE ?_
        refine tE ?_
        refine bE ?_
        refine tN ?_
        refine cSeq ?_
        refine cSeq ?_
        exfalso
        have h0 := of_decide_eq_false hc2
        omega
    · skip
      exfalso
      rw [hbd] at hs1
      omega

theorem aDBad {b : ByteArray} (h : ¬ okT b) : ACall Try.prog 13 [.one (.v (.string b))] (.tup [.agg [.v (.bool false), .v (.slice none 0 0)], .one (.v (.int .i64 4))]) := by
  rcases okD_or (body b) with k | k | ⟨k, q, h1, h2, h3⟩
  · exact absurd k h
  · exact aDBad1 k
  · exact aDBad2 k h1 h2 h3
theorem nil_dr1 {K : Nat} {b : ByteArray} : AV.le (.d (.one (.v (.slice none 0 0)))) (.d (.one (dn K (dvl b 0)))) := fun ρ B w v h => nil_dr K ρ B w v h
set_option maxRecDepth 100000 in
set_option maxHeartbeats 4000000 in
theorem aRParse {b : ByteArray} (h : okT b) : ACall Try.prog 14 [.one (.v (.string b))] (.tup [.agg (rn 401 (pvl b)), .one (.v (.bool true))]) := by
  obtain ⟨hs1, hs2, hs3⟩ := h
  refine acallN hTT 54 [.cell 2 31, .tmp 3] Try.func14 rfl rfl rfl rfl rfl ?_
  refine cSeq ?_
  refine cReg ?_
  refine mN hTT (.box 31 ([.v (.slice none 0 0), .v (.bool false)])) rfl rfl rfl ?_
  refine mV hTT _ rfl ?_
  refine mNil ?_
  refine tN ?_
  refine cSeq ?_
  by_cases hn : 0 < b.size ∧ sb b 0 = 45
  · skip
    obtain ⟨hn1, hn2⟩ := hn
    have hbd : body b = b.extract 1 b.size := if_pos (decide_eq_true ⟨hn1, hn2⟩)
    have hng : isneg b = true := decide_eq_true ⟨hn1, hn2⟩
    refine cReg ?_
    refine mV hTT _ rfl ?_
    refine mX (.d (.one (.v (.int .i64 (ByteArray.size b : Int))))) (xLen (b := b) rfl rfl rfl rfl Try.underlying9 rfl) ?_
    refine mV hTT (.d (.one (.v (.bool true)))) (evb (decide_eq_true (by omega))) ?_
    refine mV hTT _ rfl ?_
    refine mV hTT _ rfl ?_
    refine mX (.d (.one (.v (.int .u8 (sb b 0 : Int))))) (xIx (b := b) (z := 0) rfl Try.underlying9 rfl rfl (by decide) (by omega)) ?_
    refine mV hTT (.d (.one (.v (.bool true)))) (evb (by rw [hn2]; rfl)) ?_
    refine mV hTT _ rfl ?_
    refine mV hTT _ rfl ?_
    refine mNil ?_
    refine tN ?_
    refine cSeq ?_
    refine cSeq ?_
    refine cReg ?_
    refine mV hTT _ rfl ?_
    refine mNil ?_
    refine tN ?_
    refine cT rfl ?_
    refine cReg ?_
    refine mV hTT _ rfl ?_
    refine mX (.d (.one (.v (.string (ByteArray.extract b 1 (ByteArray.size b)))))) (xSl (b := b) (l' := 1) (h' := (ByteArray.size b)) rfl Try.underlying9 rfl rfl rfl (by omega) (Nat.le_refl _)) ?_
    refine mV hTT _ rfl ?_
    refine mNil ?_
    refine tN ?_
    refine cSeq ?_
    refine cSeq ?_
    refine cView 0 (.d (.one (.v (.string (body b))))) rfl (le_str hbd.symm) ?_
    refine cReg ?_
    refine mV hTT _ rfl ?_
    refine mX (.d (.one (.v (.int .i64 (ByteArray.size (body b) : Int))))) (xLen (b := (body b)) rfl rfl rfl rfl Try.underlying9 rfl) ?_
    refine mV hTT (.d (.one (.v (.bool false)))) (evb (decide_eq_false (by omega))) ?_
    refine mV hTT _ rfl ?_
    refine mV hTT _ rfl ?_
    refine mX (.d (.one (.v (.int .i64 (ByteArray.size (body b) : Int))))) (xLen (b := (body b)) rfl rfl rfl rfl Try.underlying9 rfl) ?_
    refine mV hTT (.d (.one (.v (.bool false)))) (evb (decide_eq_false (by omega))) ?_
    refine mV hTT _ rfl ?_
    refine mNil ?_
    refine tN ?_
    refine cF rfl ?_
    refine cSkip ?_
    refine tN ?_
    refine cSeq ?_
    refine cReg ?_
    refine mV hTT _ rfl ?_
    refine mNil ?_
    refine tN ?_
    refine cSeq ?_
    refine cSeq ?_
    refine cReg ?_
    refine mV hTT _ rfl ?_
    refine mNil ?_
    refine tN ?_
    refine cBlock ?_
    refine cLoop (ι := Nat) (fun (i : Nat) => ⟨54, [(0, .d (.one (.v (.string (body b))))), (2, .ptr 2 0), (3, .d (.one (.v (.bool false)))), (4, .d (.one (.v (.bool true)))), (5, .d (.one (dn (i + 1) (dvl (body b) i)))), (6, .d (.one (.v (.int .i64 ((i : Nat) : Int)))))], [(2, .box 31 ([.v (.slice none 0 0), .v (.bool false)]))]⟩) (fun (i : Nat) => i ≤ (ByteArray.size (body b))) (fun (i : Nat) => (ByteArray.size (body b)) - i) 0 (Nat.zero_le _) (wk (sl := [(0, .d (.one (.v (.string (body b))))), (2, .ptr 2 0), (3, .d (.one (.v (.bool false)))), (4, .d (.one (.v (.bool true)))), (5, .d (.one (dn (0 + 1) (dvl (body b) 0)))), (6, .d (.one (.v (.int .i64 ((0 : Nat) : Int)))))]) (hp := [(2, .box 31 ([.v (.slice none 0 0), .v (.bool false)]))]) rfl ⟨hs rfl, hs rfl, hs rfl, hs rfl, hs' rfl (nil_dr1), hs' rfl (le_int rfl), trivial⟩ ⟨ho rfl, trivial⟩ rfl) ?_
    rintro i hI
    have hi : i ≤ (ByteArray.size (body b)) := hI
    show AW Try.prog _ _ ⟨54, [(0, .d (.one (.v (.string (body b))))), (2, .ptr 2 0), (3, .d (.one (.v (.bool false)))), (4, .d (.one (.v (.bool true)))), (5, .d (.one (dn (i + 1) (dvl (body b) i)))), (6, .d (.one (.v (.int .i64 ((i : Nat) : Int)))))], [(2, .box 31 ([.v (.slice none 0 0), .v (.bool false)]))]⟩
    refine cSeq ?_
    refine cSeq ?_
    refine cReg ?_
    refine mV hTT _ rfl ?_
    refine mV hTT _ rfl ?_
    refine mX (.d (.one (.v (.int .i64 (ByteArray.size (body b) : Int))))) (xLen (b := (body b)) rfl rfl rfl rfl Try.underlying9 rfl) ?_
    refine mV hTT (.d (.one (.v (.bool (decide (((i : Nat) : Int) < (ByteArray.size (body b) : Int))))))) rfl ?_
    refine mNil ?_
    refine tN ?_
    refine cCond rfl (fun hc1 => ?_) (fun hc1 => ?_)
    · skip
      refine cSkip ?_
      refine tN ?_
      refine cSeq ?_
      refine cBlock ?_
      refine cSeq ?_
      refine cSeq ?_
      have hil : i < (ByteArray.size (body b)) := by have h0 := of_decide_eq_true hc1; omega
      have hdg : isDg (body b) i := hs3 _ (by omega)
      obtain ⟨hd1, hd2⟩ := hdg
      refine cReg ?_
      refine mV hTT _ rfl ?_
      refine mV hTT _ rfl ?_
      refine mX (.d (.one (.v (.int .u8 (sb (body b) i : Int))))) (xIx (b := (body b)) (z := ((i : Nat) : Int)) rfl Try.underlying9 rfl rfl (by omega) (by omega)) ?_
      refine mV hTT (.d (.one (.v (.bool false)))) (evb (decide_eq_false (by omega))) ?_
      refine mV hTT _ rfl ?_
      refine mV hTT _ rfl ?_
      refine mV hTT _ rfl ?_
      refine mX (.d (.one (.v (.int .u8 (sb (body b) i : Int))))) (xIx (b := (body b)) (z := ((i : Nat) : Int)) rfl Try.underlying9 rfl rfl (by omega) (by omega)) ?_
      refine mV hTT (.d (.one (.v (.bool false)))) (evb (decide_eq_false (by omega))) ?_
      refine mV hTT _ rfl ?_
      refine mNil ?_
      refine tN ?_
      refine cF rfl ?_
      refine cSkip ?_
      refine tN ?_
      have hlt := dvl_lt (body b) (k := i + 1) (fun j hj => by rcases Nat.eq_or_lt_of_le (Nat.le_of_lt_succ hj) with e | e; exact e ▸ ⟨hd1, hd2⟩; exact hs3 j (by omega))
      have hB4 : dvl (body b) i * 10 + (sb (body b) i - 48) < B4 ^ (i + 1 + 1) := Nat.lt_of_lt_of_le hlt (Nat.le_trans (Nat.pow_le_pow_left (by decide) (i + 1)) (Nat.pow_le_pow_right (by decide) (by omega)))
      refine cReg ?_
      refine mV hTT _ rfl ?_
      refine mV hTT _ rfl ?_
      refine mV hTT _ rfl ?_
      refine mX (.d (.one (.v (.int .u8 (sb (body b) i : Int))))) (xIx (b := (body b)) (z := ((i : Nat) : Int)) rfl Try.underlying9 rfl rfl (by omega) (by omega)) ?_
      refine mV hTT (.d (.one (.v (.int .u8 (((sb (body b) i - 48) : Nat) : Int))))) (evi ((wr8 (by omega) (by omega)).trans (by omega))) ?_
      refine mV hTT (.d (.one (.v (.int .i64 (((sb (body b) i - 48) : Nat) : Int))))) (evi (wr64 (by omega) (by omega))) ?_
      refine mC0 (aMulAdd (isd (i + 1) (dvl (body b) i)) (q := 10) (c0 := (sb (body b) i - 48)) (M := (i + 1 + 1)) (by decide) (by omega) hB4 (by omega)) rfl rfl rfl ?_
      refine mV hTT _ rfl ?_
      refine mNil ?_
      refine bN ?_
      refine tN ?_
      refine cReg ?_
      refine mV hTT _ rfl ?_
      refine mV hTT (.d (.one (.v (.int .i64 (IntKind.i64.wrap (((i : Nat) : Int) + 1)))))) rfl ?_
      refine mV hTT _ rfl ?_
      refine mNil ?_
      exact ⟨(i + 1), by omega, by omega, wk (sl := [(0, .d (.one (.v (.string (body b))))), (2, .ptr 2 0), (3, .d (.one (.v (.bool false)))), (4, .d (.one (.v (.bool true)))), (5, .d (.one (dn ((i + 1) + 1) (dvl (body b) (i + 1))))), (6, .d (.one (.v (.int .i64 (((i + 1) : Nat) : Int)))))]) (hp := [(2, .box 31 ([.v (.slice none 0 0), .v (.bool false)]))]) rfl ⟨hs rfl, hs rfl, hs rfl, hs rfl, hs rfl, hs' rfl (le_int (inc64 (by omega))), trivial⟩ ⟨ho rfl, trivial⟩ rfl⟩
    · skip
      refine cExit ?_
      refine tE ?_
      refine tE ?_
      refine bE ?_
      refine tN ?_
      refine cSeq ?_
      have hie : i = (ByteArray.size (body b)) := by have h0 := of_decide_eq_false hc1; omega
      subst hie
      refine cReg ?_
      refine mV hTT _ rfl ?_
      refine mV hTT _ rfl ?_
      refine mC0 (aRMade (K := ((ByteArray.size (body b)) + 1)) (m := (dvl (body b) (ByteArray.size (body b)))) (neg := true) rfl) rfl rfl rfl ?_
      refine mS hTT 2 (.box 31 (rn ((ByteArray.size (body b)) + 1) (zv true (dvl (body b) (ByteArray.size (body b)))))) rfl ?_
      refine mV hTT _ rfl ?_
      refine mNil ?_
      refine tN ?_
      refine cRet ?_
      exact rQ rfl (le_tup (dl (dle (le_rn (by omega) (by unfold pvl; rw [hng]))) (dl DV.same dl0)))
  · skip
    have hng : isneg b = false := decide_eq_false hn
    have hbd : body b = b := by unfold body; rw [hng]; rfl
    by_cases hb0 : 0 < b.size
    · skip
      refine cReg ?_
      refine mV hTT _ rfl ?_
      refine mX (.d (.one (.v (.int .i64 (ByteArray.size b : Int))))) (xLen (b := b) rfl rfl rfl rfl Try.underlying9 rfl) ?_
      refine mV hTT (.d (.one (.v (.bool true)))) (evb (decide_eq_true (by omega))) ?_
      refine mV hTT _ rfl ?_
      refine mV hTT _ rfl ?_
      refine mX (.d (.one (.v (.int .u8 (sb b 0 : Int))))) (xIx (b := b) (z := 0) rfl Try.underlying9 rfl rfl (by decide) (by omega)) ?_
      refine mV hTT (.d (.one (.v (.bool false)))) (evb (beq_eq_false_iff_ne.2 fun e => hn ⟨hb0, by omega⟩)) ?_
      refine mV hTT _ rfl ?_
      refine mV hTT _ rfl ?_
      refine mNil ?_
      refine tN ?_
      refine cSeq ?_
      refine cSeq ?_
      refine cReg ?_
      refine mV hTT _ rfl ?_
      refine mNil ?_
      refine tN ?_
      refine cF rfl ?_
      refine cSkip ?_
      refine tN ?_
      refine cSeq ?_
      refine cSeq ?_
      refine cView 0 (.d (.one (.v (.string (body b))))) rfl (le_str hbd.symm) ?_
      refine cReg ?_
      refine mV hTT _ rfl ?_
      refine mX (.d (.one (.v (.int .i64 (ByteArray.size (body b) : Int))))) (xLen (b := (body b)) rfl rfl rfl rfl Try.underlying9 rfl) ?_
      refine mV hTT (.d (.one (.v (.bool false)))) (evb (decide_eq_false (by omega))) ?_
      refine mV hTT _ rfl ?_
      refine mV hTT _ rfl ?_
      refine mX (.d (.one (.v (.int .i64 (ByteArray.size (body b) : Int))))) (xLen (b := (body b)) rfl rfl rfl rfl Try.underlying9 rfl) ?_
      refine mV hTT (.d (.one (.v (.bool false)))) (evb (decide_eq_false (by omega))) ?_
      refine mV hTT _ rfl ?_
      refine mNil ?_
      refine tN ?_
      refine cF rfl ?_
      refine cSkip ?_
      refine tN ?_
      refine cSeq ?_
      refine cReg ?_
      refine mV hTT _ rfl ?_
      refine mNil ?_
      refine tN ?_
      refine cSeq ?_
      refine cSeq ?_
      refine cReg ?_
      refine mV hTT _ rfl ?_
      refine mNil ?_
      refine tN ?_
      refine cBlock ?_
      refine cLoop (ι := Nat) (fun (i : Nat) => ⟨54, [(0, .d (.one (.v (.string (body b))))), (2, .ptr 2 0), (3, .d (.one (.v (.bool false)))), (4, .d (.one (.v (.bool false)))), (5, .d (.one (dn (i + 1) (dvl (body b) i)))), (6, .d (.one (.v (.int .i64 ((i : Nat) : Int)))))], [(2, .box 31 ([.v (.slice none 0 0), .v (.bool false)]))]⟩) (fun (i : Nat) => i ≤ (ByteArray.size (body b))) (fun (i : Nat) => (ByteArray.size (body b)) - i) 0 (Nat.zero_le _) (wk (sl := [(0, .d (.one (.v (.string (body b))))), (2, .ptr 2 0), (3, .d (.one (.v (.bool false)))), (4, .d (.one (.v (.bool false)))), (5, .d (.one (dn (0 + 1) (dvl (body b) 0)))), (6, .d (.one (.v (.int .i64 ((0 : Nat) : Int)))))]) (hp := [(2, .box 31 ([.v (.slice none 0 0), .v (.bool false)]))]) rfl ⟨hs rfl, hs rfl, hs rfl, hs rfl, hs' rfl (nil_dr1), hs' rfl (le_int rfl), trivial⟩ ⟨ho rfl, trivial⟩ rfl) ?_
      rintro i hI
      have hi : i ≤ (ByteArray.size (body b)) := hI
      show AW Try.prog _ _ ⟨54, [(0, .d (.one (.v (.string (body b))))), (2, .ptr 2 0), (3, .d (.one (.v (.bool false)))), (4, .d (.one (.v (.bool false)))), (5, .d (.one (dn (i + 1) (dvl (body b) i)))), (6, .d (.one (.v (.int .i64 ((i : Nat) : Int)))))], [(2, .box 31 ([.v (.slice none 0 0), .v (.bool false)]))]⟩
      refine cSeq ?_
      refine cSeq ?_
      refine cReg ?_
      refine mV hTT _ rfl ?_
      refine mV hTT _ rfl ?_
      refine mX (.d (.one (.v (.int .i64 (ByteArray.size (body b) : Int))))) (xLen (b := (body b)) rfl rfl rfl rfl Try.underlying9 rfl) ?_
      refine mV hTT (.d (.one (.v (.bool (decide (((i : Nat) : Int) < (ByteArray.size (body b) : Int))))))) rfl ?_
      refine mNil ?_
      refine tN ?_
      refine cCond rfl (fun hc2 => ?_) (fun hc2 => ?_)
      · skip
        refine cSkip ?_
        refine tN ?_
        refine cSeq ?_
        refine cBlock ?_
        refine cSeq ?_
        refine cSeq ?_
        have hil : i < (ByteArray.size (body b)) := by have h0 := of_decide_eq_true hc2; omega
        have hdg : isDg (body b) i := hs3 _ (by omega)
        obtain ⟨hd1, hd2⟩ := hdg
        refine cReg ?_
        refine mV hTT _ rfl ?_
        refine mV hTT _ rfl ?_
        refine mX (.d (.one (.v (.int .u8 (sb (body b) i : Int))))) (xIx (b := (body b)) (z := ((i : Nat) : Int)) rfl Try.underlying9 rfl rfl (by omega) (by omega)) ?_
        refine mV hTT (.d (.one (.v (.bool false)))) (evb (decide_eq_false (by omega))) ?_
        refine mV hTT _ rfl ?_
        refine mV hTT _ rfl ?_
        refine mV hTT _ rfl ?_
        refine mX (.d (.one (.v (.int .u8 (sb (body b) i : Int))))) (xIx (b := (body b)) (z := ((i : Nat) : Int)) rfl Try.underlying9 rfl rfl (by omega) (by omega)) ?_
        refine mV hTT (.d (.one (.v (.bool false)))) (evb (decide_eq_false (by omega))) ?_
        refine mV hTT _ rfl ?_
        refine mNil ?_
        refine tN ?_
        refine cF rfl ?_
        refine cSkip ?_
        refine tN ?_
        have hlt := dvl_lt (body b) (k := i + 1) (fun j hj => by rcases Nat.eq_or_lt_of_le (Nat.le_of_lt_succ hj) with e | e; exact e ▸ ⟨hd1, hd2⟩; exact hs3 j (by omega))
        have hB4 : dvl (body b) i * 10 + (sb (body b) i - 48) < B4 ^ (i + 1 + 1) := Nat.lt_of_lt_of_le hlt (Nat.le_trans (Nat.pow_le_pow_left (by decide) (i + 1)) (Nat.pow_le_pow_right (by decide) (by omega)))
        refine cReg ?_
        refine mV hTT _ rfl ?_
        refine mV hTT _ rfl ?_
        refine mV hTT _ rfl ?_
        refine mX (.d (.one (.v (.int .u8 (sb (body b) i : Int))))) (xIx (b := (body b)) (z := ((i : Nat) : Int)) rfl Try.underlying9 rfl rfl (by omega) (by omega)) ?_
        refine mV hTT (.d (.one (.v (.int .u8 (((sb (body b) i - 48) : Nat) : Int))))) (evi ((wr8 (by omega) (by omega)).trans (by omega))) ?_
        refine mV hTT (.d (.one (.v (.int .i64 (((sb (body b) i - 48) : Nat) : Int))))) (evi (wr64 (by omega) (by omega))) ?_
        refine mC0 (aMulAdd (isd (i + 1) (dvl (body b) i)) (q := 10) (c0 := (sb (body b) i - 48)) (M := (i + 1 + 1)) (by decide) (by omega) hB4 (by omega)) rfl rfl rfl ?_
        refine mV hTT _ rfl ?_
        refine mNil ?_
        refine bN ?_
        refine tN ?_
        refine cReg ?_
        refine mV hTT _ rfl ?_
        refine mV hTT (.d (.one (.v (.int .i64 (IntKind.i64.wrap (((i : Nat) : Int) + 1)))))) rfl ?_
        refine mV hTT _ rfl ?_
        refine mNil ?_
        exact ⟨(i + 1), by omega, by omega, wk (sl := [(0, .d (.one (.v (.string (body b))))), (2, .ptr 2 0), (3, .d (.one (.v (.bool false)))), (4, .d (.one (.v (.bool false)))), (5, .d (.one (dn ((i + 1) + 1) (dvl (body b) (i + 1))))), (6, .d (.one (.v (.int .i64 (((i + 1) : Nat) : Int)))))]) (hp := [(2, .box 31 ([.v (.slice none 0 0), .v (.bool false)]))]) rfl ⟨hs rfl, hs rfl, hs rfl, hs rfl, hs rfl, hs' rfl (le_int (inc64 (by omega))), trivial⟩ ⟨ho rfl, trivial⟩ rfl⟩
      · skip
        refine cExit ?_
        refine tE ?_
        refine tE ?_
        refine bE ?_
        refine tN ?_
        refine cSeq ?_
        have hie : i = (ByteArray.size (body b)) := by have h0 := of_decide_eq_false hc2; omega
        subst hie
        refine cReg ?_
        refine mV hTT _ rfl ?_
        refine mV hTT _ rfl ?_
        refine mC0 (aRMade (K := ((ByteArray.size (body b)) + 1)) (m := (dvl (body b) (ByteArray.size (body b)))) (neg := false) rfl) rfl rfl rfl ?_
        refine mS hTT 2 (.box 31 (rn ((ByteArray.size (body b)) + 1) (zv false (dvl (body b) (ByteArray.size (body b)))))) rfl ?_
        refine mV hTT _ rfl ?_
        refine mNil ?_
        refine tN ?_
        refine cRet ?_
        exact rQ rfl (le_tup (dl (dle (le_rn (by omega) (by unfold pvl; rw [hng]))) (dl DV.same dl0)))
    · skip
      exfalso
      rw [hbd] at hs1
      omega

set_option maxRecDepth 100000 in
set_option maxHeartbeats 4000000 in
theorem aRBad1 {b : ByteArray} (h : ¬ (1 ≤ (body b).size ∧ (body b).size ≤ 400)) : ACall Try.prog 14 [.one (.v (.string b))] (.tup [.agg [.v (.slice none 0 0), .v (.bool false)], .one (.v (.bool false))]) := by
  refine acallN hTT 54 [.cell 2 31, .tmp 3] Try.func14 rfl rfl rfl rfl rfl ?_
  refine cSeq ?_
  refine cReg ?_
  refine mN hTT (.box 31 ([.v (.slice none 0 0), .v (.bool false)])) rfl rfl rfl ?_
  refine mV hTT _ rfl ?_
  refine mNil ?_
  refine tN ?_
  refine cSeq ?_
  by_cases hn : 0 < b.size ∧ sb b 0 = 45
  · skip
    obtain ⟨hn1, hn2⟩ := hn
    have hbd : body b = b.extract 1 b.size := if_pos (decide_eq_true ⟨hn1, hn2⟩)
    have hng : isneg b = true := decide_eq_true ⟨hn1, hn2⟩
    refine cReg ?_
    refine mV hTT _ rfl ?_
    refine mX (.d (.one (.v (.int .i64 (ByteArray.size b : Int))))) (xLen (b := b) rfl rfl rfl rfl Try.underlying9 rfl) ?_
    refine mV hTT (.d (.one (.v (.bool true)))) (evb (decide_eq_true (by omega))) ?_
    refine mV hTT _ rfl ?_
    refine mV hTT _ rfl ?_
    refine mX (.d (.one (.v (.int .u8 (sb b 0 : Int))))) (xIx (b := b) (z := 0) rfl Try.underlying9 rfl rfl (by decide) (by omega)) ?_
    refine mV hTT (.d (.one (.v (.bool true)))) (evb (by rw [hn2]; rfl)) ?_
    refine mV hTT _ rfl ?_
    refine mV hTT _ rfl ?_
    refine mNil ?_
    refine tN ?_
    refine cSeq ?_
    refine cSeq ?_
    refine cReg ?_
    refine mV hTT _ rfl ?_
    refine mNil ?_
    refine tN ?_
    refine cT rfl ?_
    refine cReg ?_
    refine mV hTT _ rfl ?_
    refine mX (.d (.one (.v (.string (ByteArray.extract b 1 (ByteArray.size b)))))) (xSl (b := b) (l' := 1) (h' := (ByteArray.size b)) rfl Try.underlying9 rfl rfl rfl (by omega) (Nat.le_refl _)) ?_
    refine mV hTT _ rfl ?_
    refine mNil ?_
    refine tN ?_
    refine cSeq ?_
    refine cSeq ?_
    refine cView 0 (.d (.one (.v (.string (body b))))) rfl (le_str hbd.symm) ?_
    by_cases hs0 : (ByteArray.size (body b)) < 1
    · skip
      refine cReg ?_
      refine mV hTT _ rfl ?_
      refine mX (.d (.one (.v (.int .i64 (ByteArray.size (body b) : Int))))) (xLen (b := (body b)) rfl rfl rfl rfl Try.underlying9 rfl) ?_
      refine mV hTT (.d (.one (.v (.bool true)))) (evb (decide_eq_true (by omega))) ?_
      refine mV hTT _ rfl ?_
      refine mG rfl rfl ?_
      refine mG rfl rfl ?_
      refine mG rfl rfl ?_
      refine mV hTT _ rfl ?_
      refine mNil ?_
      refine tN ?_
      refine cT rfl ?_
      refine cSeq ?_
      refine cReg ?_
      refine mV hTT (.d (.agg ([.v (.slice none 0 0), .v (.bool false)]))) rfl ?_
      refine mS hTT 2 (.box 31 ([.v (.slice none 0 0), .v (.bool false)])) rfl ?_
      refine mV hTT _ rfl ?_
      refine mNil ?_
      refine tN ?_
      refine cRet ?_
      refine tR ?_
      exact rQ rfl (AV.le.rfl)
    · skip
      refine cReg ?_
      refine mV hTT _ rfl ?_
      refine mX (.d (.one (.v (.int .i64 (ByteArray.size (body b) : Int))))) (xLen (b := (body b)) rfl rfl rfl rfl Try.underlying9 rfl) ?_
      refine mV hTT (.d (.one (.v (.bool false)))) (evb (decide_eq_false (by omega))) ?_
      refine mV hTT _ rfl ?_
      refine mV hTT _ rfl ?_
      refine mX (.d (.one (.v (.int .i64 (ByteArray.size (body b) : Int))))) (xLen (b := (body b)) rfl rfl rfl rfl Try.underlying9 rfl) ?_
      refine mV hTT (.d (.one (.v (.bool true)))) (evb (decide_eq_true (by omega))) ?_
      refine mV hTT _ rfl ?_
      refine mNil ?_
      refine tN ?_
      refine cT rfl ?_
      refine cSeq ?_
      refine cReg ?_
      refine mV hTT (.d (.agg ([.v (.slice none 0 0), .v (.bool false)]))) rfl ?_
      refine mS hTT 2 (.box 31 ([.v (.slice none 0 0), .v (.bool false)])) rfl ?_
      refine mV hTT _ rfl ?_
      refine mNil ?_
      refine tN ?_
      refine cRet ?_
      refine tR ?_
      exact rQ rfl (AV.le.rfl)
  · skip
    have hng : isneg b = false := decide_eq_false hn
    have hbd : body b = b := by unfold body; rw [hng]; rfl
    by_cases hb0 : 0 < b.size
    · skip
      refine cReg ?_
      refine mV hTT _ rfl ?_
      refine mX (.d (.one (.v (.int .i64 (ByteArray.size b : Int))))) (xLen (b := b) rfl rfl rfl rfl Try.underlying9 rfl) ?_
      refine mV hTT (.d (.one (.v (.bool true)))) (evb (decide_eq_true (by omega))) ?_
      refine mV hTT _ rfl ?_
      refine mV hTT _ rfl ?_
      refine mX (.d (.one (.v (.int .u8 (sb b 0 : Int))))) (xIx (b := b) (z := 0) rfl Try.underlying9 rfl rfl (by decide) (by omega)) ?_
      refine mV hTT (.d (.one (.v (.bool false)))) (evb (beq_eq_false_iff_ne.2 fun e => hn ⟨hb0, by omega⟩)) ?_
      refine mV hTT _ rfl ?_
      refine mV hTT _ rfl ?_
      refine mNil ?_
      refine tN ?_
      refine cSeq ?_
      refine cSeq ?_
      refine cReg ?_
      refine mV hTT _ rfl ?_
      refine mNil ?_
      refine tN ?_
      refine cF rfl ?_
      refine cSkip ?_
      refine tN ?_
      refine cSeq ?_
      refine cSeq ?_
      refine cView 0 (.d (.one (.v (.string (body b))))) rfl (le_str hbd.symm) ?_
      by_cases hs0 : (ByteArray.size (body b)) < 1
      · skip
        refine cReg ?_
        refine mV hTT _ rfl ?_
        refine mX (.d (.one (.v (.int .i64 (ByteArray.size (body b) : Int))))) (xLen (b := (body b)) rfl rfl rfl rfl Try.underlying9 rfl) ?_
        refine mV hTT (.d (.one (.v (.bool true)))) (evb (decide_eq_true (by omega))) ?_
        refine mV hTT _ rfl ?_
        refine mG rfl rfl ?_
        refine mG rfl rfl ?_
        refine mG rfl rfl ?_
        refine mV hTT _ rfl ?_
        refine mNil ?_
        refine tN ?_
        refine cT rfl ?_
        refine cSeq ?_
        refine cReg ?_
        refine mV hTT (.d (.agg ([.v (.slice none 0 0), .v (.bool false)]))) rfl ?_
        refine mS hTT 2 (.box 31 ([.v (.slice none 0 0), .v (.bool false)])) rfl ?_
        refine mV hTT _ rfl ?_
        refine mNil ?_
        refine tN ?_
        refine cRet ?_
        refine tR ?_
        exact rQ rfl (AV.le.rfl)
      · skip
        refine cReg ?_
        refine mV hTT _ rfl ?_
        refine mX (.d (.one (.v (.int .i64 (ByteArray.size (body b) : Int))))) (xLen (b := (body b)) rfl rfl rfl rfl Try.underlying9 rfl) ?_
        refine mV hTT (.d (.one (.v (.bool false)))) (evb (decide_eq_false (by omega))) ?_
        refine mV hTT _ rfl ?_
        refine mV hTT _ rfl ?_
        refine mX (.d (.one (.v (.int .i64 (ByteArray.size (body b) : Int))))) (xLen (b := (body b)) rfl rfl rfl rfl Try.underlying9 rfl) ?_
        refine mV hTT (.d (.one (.v (.bool true)))) (evb (decide_eq_true (by omega))) ?_
        refine mV hTT _ rfl ?_
        refine mNil ?_
        refine tN ?_
        refine cT rfl ?_
        refine cSeq ?_
        refine cReg ?_
        refine mV hTT (.d (.agg ([.v (.slice none 0 0), .v (.bool false)]))) rfl ?_
        refine mS hTT 2 (.box 31 ([.v (.slice none 0 0), .v (.bool false)])) rfl ?_
        refine mV hTT _ rfl ?_
        refine mNil ?_
        refine tN ?_
        refine cRet ?_
        refine tR ?_
        exact rQ rfl (AV.le.rfl)
    · skip
      have hb00 : b.size = 0 := by omega
      refine cReg ?_
      refine mV hTT _ rfl ?_
      refine mX (.d (.one (.v (.int .i64 (ByteArray.size b : Int))))) (xLen (b := b) rfl rfl rfl rfl Try.underlying9 rfl) ?_
      refine mV hTT (.d (.one (.v (.bool false)))) (evb (decide_eq_false (by omega))) ?_
      refine mV hTT _ rfl ?_
      refine mG rfl rfl ?_
      refine mG rfl rfl ?_
      refine mG rfl rfl ?_
      refine mV hTT _ rfl ?_
      refine mV hTT _ rfl ?_
      refine mNil ?_
      refine tN ?_
      refine cSeq ?_
      refine cSeq ?_
      refine cReg ?_
      refine mV hTT _ rfl ?_
      refine mNil ?_
      refine tN ?_
      refine cF rfl ?_
      refine cSkip ?_
      refine tN ?_
      refine cSeq ?_
      refine cSeq ?_
      refine cView 0 (.d (.one (.v (.string (body b))))) rfl (le_str hbd.symm) ?_
      by_cases hs0 : (ByteArray.size (body b)) < 1
      · skip
        refine cReg ?_
        refine mV hTT _ rfl ?_
        refine mX (.d (.one (.v (.int .i64 (ByteArray.size (body b) : Int))))) (xLen (b := (body b)) rfl rfl rfl rfl Try.underlying9 rfl) ?_
        refine mV hTT (.d (.one (.v (.bool true)))) (evb (decide_eq_true (by omega))) ?_
        refine mV hTT _ rfl ?_
        refine mG rfl rfl ?_
        refine mG rfl rfl ?_
        refine mG rfl rfl ?_
        refine mV hTT _ rfl ?_
        refine mNil ?_
        refine tN ?_
        refine cT rfl ?_
        refine cSeq ?_
        refine cReg ?_
        refine mV hTT (.d (.agg ([.v (.slice none 0 0), .v (.bool false)]))) rfl ?_
        refine mS hTT 2 (.box 31 ([.v (.slice none 0 0), .v (.bool false)])) rfl ?_
        refine mV hTT _ rfl ?_
        refine mNil ?_
        refine tN ?_
        refine cRet ?_
        refine tR ?_
        exact rQ rfl (AV.le.rfl)
      · skip
        refine cReg ?_
        refine mV hTT _ rfl ?_
        refine mX (.d (.one (.v (.int .i64 (ByteArray.size (body b) : Int))))) (xLen (b := (body b)) rfl rfl rfl rfl Try.underlying9 rfl) ?_
        refine mV hTT (.d (.one (.v (.bool false)))) (evb (decide_eq_false (by omega))) ?_
        refine mV hTT _ rfl ?_
        refine mV hTT _ rfl ?_
        refine mX (.d (.one (.v (.int .i64 (ByteArray.size (body b) : Int))))) (xLen (b := (body b)) rfl rfl rfl rfl Try.underlying9 rfl) ?_
        refine mV hTT (.d (.one (.v (.bool true)))) (evb (decide_eq_true (by omega))) ?_
        refine mV hTT _ rfl ?_
        refine mNil ?_
        refine tN ?_
        refine cT rfl ?_
        refine cSeq ?_
        refine cReg ?_
        refine mV hTT (.d (.agg ([.v (.slice none 0 0), .v (.bool false)]))) rfl ?_
        refine mS hTT 2 (.box 31 ([.v (.slice none 0 0), .v (.bool false)])) rfl ?_
        refine mV hTT _ rfl ?_
        refine mNil ?_
        refine tN ?_
        refine cRet ?_
        refine tR ?_
        exact rQ rfl (AV.le.rfl)

set_option maxRecDepth 100000 in
set_option maxHeartbeats 4000000 in
theorem aRBad2 {b : ByteArray} {q : Nat} (h : 1 ≤ (body b).size ∧ (body b).size ≤ 400) (hq1 : q < (body b).size) (hq2 : ∀ i, i < q → isDg (body b) i) (hq3 : ¬ isDg (body b) q) : ACall Try.prog 14 [.one (.v (.string b))] (.tup [.agg [.v (.slice none 0 0), .v (.bool false)], .one (.v (.bool false))]) := by
  obtain ⟨hs1, hs2⟩ := h
  refine acallN hTT 54 [.cell 2 31, .tmp 3] Try.func14 rfl rfl rfl rfl rfl ?_
  refine cSeq ?_
  refine cReg ?_
  refine mN hTT (.box 31 ([.v (.slice none 0 0), .v (.bool false)])) rfl rfl rfl ?_
  refine mV hTT _ rfl ?_
  refine mNil ?_
  refine tN ?_
  refine cSeq ?_
  by_cases hn : 0 < b.size ∧ sb b 0 = 45
  · skip
    obtain ⟨hn1, hn2⟩ := hn
    have hbd : body b = b.extract 1 b.size := if_pos (decide_eq_true ⟨hn1, hn2⟩)
    have hng : isneg b = true := decide_eq_true ⟨hn1, hn2⟩
    refine cReg ?_
    refine mV hTT _ rfl ?_
    refine mX (.d (.one (.v (.int .i64 (ByteArray.size b : Int))))) (xLen (b := b) rfl rfl rfl rfl Try.underlying9 rfl) ?_
    refine mV hTT (.d (.one (.v (.bool true)))) (evb (decide_eq_true (by omega))) ?_
    refine mV hTT _ rfl ?_
    refine mV hTT _ rfl ?_
    refine mX (.d (.one (.v (.int .u8 (sb b 0 : Int))))) (xIx (b := b) (z := 0) rfl Try.underlying9 rfl rfl (by decide) (by omega)) ?_
    refine mV hTT (.d (.one (.v (.bool true)))) (evb (by rw [hn2]; rfl)) ?_
    refine mV hTT _ rfl ?_
    refine mV hTT _ rfl ?_
    refine mNil ?_
    refine tN ?_
    refine cSeq ?_
    refine cSeq ?_
    refine cReg ?_
    refine mV hTT _ rfl ?_
    refine mNil ?_
    refine tN ?_
    refine cT rfl ?_
    refine cReg ?_
    refine mV hTT _ rfl ?_
    refine mX (.d (.one (.v (.string (ByteArray.extract b 1 (ByteArray.size b)))))) (xSl (b := b) (l' := 1) (h' := (ByteArray.size b)) rfl Try.underlying9 rfl rfl rfl (by omega) (Nat.le_refl _)) ?_
    refine mV hTT _ rfl ?_
    refine mNil ?_
    refine tN ?_
    refine cSeq ?_
    refine cSeq ?_
    refine cView 0 (.d (.one (.v (.string (body b))))) rfl (le_str hbd.symm) ?_
    refine cReg ?_
    refine mV hTT _ rfl ?_
    refine mX (.d (.one (.v (.int .i64 (ByteArray.size (body b) : Int))))) (xLen (b := (body b)) rfl rfl rfl rfl Try.underlying9 rfl) ?_
    refine mV hTT (.d (.one (.v (.bool false)))) (evb (decide_eq_false (by omega))) ?_
    refine mV hTT _ rfl ?_
    refine mV hTT _ rfl ?_
    refine mX (.d (.one (.v (.int .i64 (ByteArray.size (body b) : Int))))) (xLen (b := (body b)) rfl rfl rfl rfl Try.underlying9 rfl) ?_
    refine mV hTT (.d (.one (.v (.bool false)))) (evb (decide_eq_false (by omega))) ?_
    refine mV hTT _ rfl ?_
    refine mNil ?_
    refine tN ?_
    refine cF rfl ?_
    refine cSkip ?_
    refine tN ?_
    refine cSeq ?_
    refine cReg ?_
    refine mV hTT _ rfl ?_
    refine mNil ?_
    refine tN ?_
    refine cSeq ?_
    refine cSeq ?_
    refine cReg ?_
    refine mV hTT _ rfl ?_
    refine mNil ?_
    refine tN ?_
    refine cBlock ?_
    refine cLoop (ι := Nat) (fun (i : Nat) => ⟨54, [(0, .d (.one (.v (.string (body b))))), (2, .ptr 2 0), (3, .d (.one (.v (.bool false)))), (4, .d (.one (.v (.bool true)))), (5, .d (.one (dn (i + 1) (dvl (body b) i)))), (6, .d (.one (.v (.int .i64 ((i : Nat) : Int)))))], [(2, .box 31 ([.v (.slice none 0 0), .v (.bool false)]))]⟩) (fun (i : Nat) => i ≤ (ByteArray.size (body b)) ∧ i ≤ q) (fun (i : Nat) => (ByteArray.size (body b)) - i) 0 (⟨Nat.zero_le _, Nat.zero_le _⟩) (wk (sl := [(0, .d (.one (.v (.string (body b))))), (2, .ptr 2 0), (3, .d (.one (.v (.bool false)))), (4, .d (.one (.v (.bool true)))), (5, .d (.one (dn (0 + 1) (dvl (body b) 0)))), (6, .d (.one (.v (.int .i64 ((0 : Nat) : Int)))))]) (hp := [(2, .box 31 ([.v (.slice none 0 0), .v (.bool false)]))]) rfl ⟨hs rfl, hs rfl, hs rfl, hs rfl, hs' rfl (nil_dr1), hs' rfl (le_int rfl), trivial⟩ ⟨ho rfl, trivial⟩ rfl) ?_
    rintro i hI
    obtain ⟨hi, hiq⟩ : i ≤ (ByteArray.size (body b)) ∧ i ≤ q := hI
    show AW Try.prog _ _ ⟨54, [(0, .d (.one (.v (.string (body b))))), (2, .ptr 2 0), (3, .d (.one (.v (.bool false)))), (4, .d (.one (.v (.bool true)))), (5, .d (.one (dn (i + 1) (dvl (body b) i)))), (6, .d (.one (.v (.int .i64 ((i : Nat) : Int)))))], [(2, .box 31 ([.v (.slice none 0 0), .v (.bool false)]))]⟩
    refine cSeq ?_
    refine cSeq ?_
    refine cReg ?_
    refine mV hTT _ rfl ?_
    refine mV hTT _ rfl ?_
    refine mX (.d (.one (.v (.int .i64 (ByteArray.size (body b) : Int))))) (xLen (b := (body b)) rfl rfl rfl rfl Try.underlying9 rfl) ?_
    refine mV hTT (.d (.one (.v (.bool (decide (((i : Nat) : Int) < (ByteArray.size (body b) : Int))))))) rfl ?_
    refine mNil ?_
    refine tN ?_
    refine cCond rfl (fun hc1 => ?_) (fun hc1 => ?_)
    · skip
      refine cSkip ?_
      refine tN ?_
      refine cSeq ?_
      refine cBlock ?_
      refine cSeq ?_
      refine cSeq ?_
      have hil : i < (ByteArray.size (body b)) := by have h0 := of_decide_eq_true hc1; omega
      by_cases hq0 : i = q
      · skip
        have hlh : ¬ (48 ≤ sb (body b) i ∧ sb (body b) i ≤ 57) := by rw [hq0]; exact hq3
        by_cases hlo : sb (body b) i < 48
        · skip
          refine cReg ?_
          refine mV hTT _ rfl ?_
          refine mV hTT _ rfl ?_
          refine mX (.d (.one (.v (.int .u8 (sb (body b) i : Int))))) (xIx (b := (body b)) (z := ((i : Nat) : Int)) rfl Try.underlying9 rfl rfl (by omega) (by omega)) ?_
          refine mV hTT (.d (.one (.v (.bool true)))) (evb (decide_eq_true (by omega))) ?_
          refine mV hTT _ rfl ?_
          refine mG rfl rfl ?_
          refine mG rfl rfl ?_
          refine mG rfl rfl ?_
          refine mG rfl rfl ?_
          refine mV hTT _ rfl ?_
          refine mNil ?_
          refine tN ?_
          refine cT rfl ?_
          refine cSeq ?_
          refine cReg ?_
          refine mV hTT (.d (.agg ([.v (.slice none 0 0), .v (.bool false)]))) rfl ?_
          refine mS hTT 2 (.box 31 ([.v (.slice none 0 0), .v (.bool false)])) rfl ?_
          refine mV hTT _ rfl ?_
          refine mNil ?_
          refine tN ?_
          refine cRet ?_
          refine tR ?_
          refine bR ?_
          refine tR ?_
          refine tR ?_
          refine bR ?_
          refine tR ?_
          exact rQ rfl (AV.le.rfl)
        · skip
          refine cReg ?_
          refine mV hTT _ rfl ?_
          refine mV hTT _ rfl ?_
          refine mX (.d (.one (.v (.int .u8 (sb (body b) i : Int))))) (xIx (b := (body b)) (z := ((i : Nat) : Int)) rfl Try.underlying9 rfl rfl (by omega) (by omega)) ?_
          refine mV hTT (.d (.one (.v (.bool false)))) (evb (decide_eq_false (by omega))) ?_
          refine mV hTT _ rfl ?_
          refine mV hTT _ rfl ?_
          refine mV hTT _ rfl ?_
          refine mX (.d (.one (.v (.int .u8 (sb (body b) i : Int))))) (xIx (b := (body b)) (z := ((i : Nat) : Int)) rfl Try.underlying9 rfl rfl (by omega) (by omega)) ?_
          refine mV hTT (.d (.one (.v (.bool true)))) (evb (decide_eq_true (by omega))) ?_
          refine mV hTT _ rfl ?_
          refine mNil ?_
          refine tN ?_
          refine cT rfl ?_
          refine cSeq ?_
          refine cReg ?_
          refine mV hTT (.d (.agg ([.v (.slice none 0 0), .v (.bool false)]))) rfl ?_
          refine mS hTT 2 (.box 31 ([.v (.slice none 0 0), .v (.bool false)])) rfl ?_
          refine mV hTT _ rfl ?_
          refine mNil ?_
          refine tN ?_
          refine cRet ?_
          refine tR ?_
          refine bR ?_
          refine tR ?_
          refine tR ?_
          refine bR ?_
          refine tR ?_
          exact rQ rfl (AV.le.rfl)
      · skip
        have hdg : isDg (body b) i := hq2 _ (by omega)
        obtain ⟨hd1, hd2⟩ := hdg
        refine cReg ?_
        refine mV hTT _ rfl ?_
        refine mV hTT _ rfl ?_
        refine mX (.d (.one (.v (.int .u8 (sb (body b) i : Int))))) (xIx (b := (body b)) (z := ((i : Nat) : Int)) rfl Try.underlying9 rfl rfl (by omega) (by omega)) ?_
        refine mV hTT (.d (.one (.v (.bool false)))) (evb (decide_eq_false (by omega))) ?_
        refine mV hTT _ rfl ?_
        refine mV hTT _ rfl ?_
        refine mV hTT _ rfl ?_
        refine mX (.d (.one (.v (.int .u8 (sb (body b) i : Int))))) (xIx (b := (body b)) (z := ((i : Nat) : Int)) rfl Try.underlying9 rfl rfl (by omega) (by omega)) ?_
        refine mV hTT (.d (.one (.v (.bool false)))) (evb (decide_eq_false (by omega))) ?_
        refine mV hTT _ rfl ?_
        refine mNil ?_
        refine tN ?_
        refine cF rfl ?_
        refine cSkip ?_
        refine tN ?_
        have hlt := dvl_lt (body b) (k := i + 1) (fun j hj => by rcases Nat.eq_or_lt_of_le (Nat.le_of_lt_succ hj) with e | e; exact e ▸ ⟨hd1, hd2⟩; exact hq2 j (by omega))
        have hB4 : dvl (body b) i * 10 + (sb (body b) i - 48) < B4 ^ (i + 1 + 1) := Nat.lt_of_lt_of_le hlt (Nat.le_trans (Nat.pow_le_pow_left (by decide) (i + 1)) (Nat.pow_le_pow_right (by decide) (by omega)))
        refine cReg ?_
        refine mV hTT _ rfl ?_
        refine mV hTT _ rfl ?_
        refine mV hTT _ rfl ?_
        refine mX (.d (.one (.v (.int .u8 (sb (body b) i : Int))))) (xIx (b := (body b)) (z := ((i : Nat) : Int)) rfl Try.underlying9 rfl rfl (by omega) (by omega)) ?_
        refine mV hTT (.d (.one (.v (.int .u8 (((sb (body b) i - 48) : Nat) : Int))))) (evi ((wr8 (by omega) (by omega)).trans (by omega))) ?_
        refine mV hTT (.d (.one (.v (.int .i64 (((sb (body b) i - 48) : Nat) : Int))))) (evi (wr64 (by omega) (by omega))) ?_
        refine mC0 (aMulAdd (isd (i + 1) (dvl (body b) i)) (q := 10) (c0 := (sb (body b) i - 48)) (M := (i + 1 + 1)) (by decide) (by omega) hB4 (by omega)) rfl rfl rfl ?_
        refine mV hTT _ rfl ?_
        refine mNil ?_
        refine bN ?_
        refine tN ?_
        refine cReg ?_
        refine mV hTT _ rfl ?_
        refine mV hTT (.d (.one (.v (.int .i64 (IntKind.i64.wrap (((i : Nat) : Int) + 1)))))) rfl ?_
        refine mV hTT _ rfl ?_
        refine mNil ?_
        exact ⟨(i + 1), ⟨by omega, by omega⟩, by omega, wk (sl := [(0, .d (.one (.v (.string (body b))))), (2, .ptr 2 0), (3, .d (.one (.v (.bool false)))), (4, .d (.one (.v (.bool true)))), (5, .d (.one (dn ((i + 1) + 1) (dvl (body b) (i + 1))))), (6, .d (.one (.v (.int .i64 (((i + 1) : Nat) : Int)))))]) (hp := [(2, .box 31 ([.v (.slice none 0 0), .v (.bool false)]))]) rfl ⟨hs rfl, hs rfl, hs rfl, hs rfl, hs rfl, hs' rfl (le_int (inc64 (by omega))), trivial⟩ ⟨ho rfl, trivial⟩ rfl⟩
    · skip
      refine cExit ?_
      refine tE ?_
      refine tE ?_
      refine bE ?_
      refine tN ?_
      refine cSeq ?_
      exfalso
      have h0 := of_decide_eq_false hc1
      omega
  · skip
    have hng : isneg b = false := decide_eq_false hn
    have hbd : body b = b := by unfold body; rw [hng]; rfl
    by_cases hb0 : 0 < b.size
    · skip
      refine cReg ?_
      refine mV hTT _ rfl ?_
      refine mX (.d (.one (.v (.int .i64 (ByteArray.size b : Int))))) (xLen (b := b) rfl rfl rfl rfl Try.underlying9 rfl) ?_
      refine mV hTT (.d (.one (.v (.bool true)))) (evb (decide_eq_true (by omega))) ?_
      refine mV hTT _ rfl ?_
      refine mV hTT _ rfl ?_
      refine mX (.d (.one (.v (.int .u8 (sb b 0 : Int))))) (xIx (b := b) (z := 0) rfl Try.underlying9 rfl rfl (by decide) (by omega)) ?_
      refine mV hTT (.d (.one (.v (.bool false)))) (evb (beq_eq_false_iff_ne.2 fun e => hn ⟨hb0, by omega⟩)) ?_
      refine mV hTT _ rfl ?_
      refine mV hTT _ rfl ?_
      refine mNil ?_
      refine tN ?_
      refine cSeq ?_
      refine cSeq ?_
      refine cReg ?_
      refine mV hTT _ rfl ?_
      refine mNil ?_
      refine tN ?_
      refine cF rfl ?_
      refine cSkip ?_
      refine tN ?_
      refine cSeq ?_
      refine cSeq ?_
      refine cView 0 (.d (.one (.v (.string (body b))))) rfl (le_str hbd.symm) ?_
      refine cReg ?_
      refine mV hTT _ rfl ?_
      refine mX (.d (.one (.v (.int .i64 (ByteArray.size (body b) : Int))))) (xLen (b := (body b)) rfl rfl rfl rfl Try.underlying9 rfl) ?_
      refine mV hTT (.d (.one (.v (.bool false)))) (evb (decide_eq_false (by omega))) ?_
      refine mV hTT _ rfl ?_
      refine mV hTT _ rfl ?_
      refine mX (.d (.one (.v (.int .i64 (ByteArray.size (body b) : Int))))) (xLen (b := (body b)) rfl rfl rfl rfl Try.underlying9 rfl) ?_
      refine mV hTT (.d (.one (.v (.bool false)))) (evb (decide_eq_false (by omega))) ?_
      refine mV hTT _ rfl ?_
      refine mNil ?_
      refine tN ?_
      refine cF rfl ?_
      refine cSkip ?_
      refine tN ?_
      refine cSeq ?_
      refine cReg ?_
      refine mV hTT _ rfl ?_
      refine mNil ?_
      refine tN ?_
      refine cSeq ?_
      refine cSeq ?_
      refine cReg ?_
      refine mV hTT _ rfl ?_
      refine mNil ?_
      refine tN ?_
      refine cBlock ?_
      refine cLoop (ι := Nat) (fun (i : Nat) => ⟨54, [(0, .d (.one (.v (.string (body b))))), (2, .ptr 2 0), (3, .d (.one (.v (.bool false)))), (4, .d (.one (.v (.bool false)))), (5, .d (.one (dn (i + 1) (dvl (body b) i)))), (6, .d (.one (.v (.int .i64 ((i : Nat) : Int)))))], [(2, .box 31 ([.v (.slice none 0 0), .v (.bool false)]))]⟩) (fun (i : Nat) => i ≤ (ByteArray.size (body b)) ∧ i ≤ q) (fun (i : Nat) => (ByteArray.size (body b)) - i) 0 (⟨Nat.zero_le _, Nat.zero_le _⟩) (wk (sl := [(0, .d (.one (.v (.string (body b))))), (2, .ptr 2 0), (3, .d (.one (.v (.bool false)))), (4, .d (.one (.v (.bool false)))), (5, .d (.one (dn (0 + 1) (dvl (body b) 0)))), (6, .d (.one (.v (.int .i64 ((0 : Nat) : Int)))))]) (hp := [(2, .box 31 ([.v (.slice none 0 0), .v (.bool false)]))]) rfl ⟨hs rfl, hs rfl, hs rfl, hs rfl, hs' rfl (nil_dr1), hs' rfl (le_int rfl), trivial⟩ ⟨ho rfl, trivial⟩ rfl) ?_
      rintro i hI
      obtain ⟨hi, hiq⟩ : i ≤ (ByteArray.size (body b)) ∧ i ≤ q := hI
      show AW Try.prog _ _ ⟨54, [(0, .d (.one (.v (.string (body b))))), (2, .ptr 2 0), (3, .d (.one (.v (.bool false)))), (4, .d (.one (.v (.bool false)))), (5, .d (.one (dn (i + 1) (dvl (body b) i)))), (6, .d (.one (.v (.int .i64 ((i : Nat) : Int)))))], [(2, .box 31 ([.v (.slice none 0 0), .v (.bool false)]))]⟩
      refine cSeq ?_
      refine cSeq ?_
      refine cReg ?_
      refine mV hTT _ rfl ?_
      refine mV hTT _ rfl ?_
      refine mX (.d (.one (.v (.int .i64 (ByteArray.size (body b) : Int))))) (xLen (b := (body b)) rfl rfl rfl rfl Try.underlying9 rfl) ?_
      refine mV hTT (.d (.one (.v (.bool (decide (((i : Nat) : Int) < (ByteArray.size (body b) : Int))))))) rfl ?_
      refine mNil ?_
      refine tN ?_
      refine cCond rfl (fun hc2 => ?_) (fun hc2 => ?_)
      · skip
        refine cSkip ?_
        refine tN ?_
        refine cSeq ?_
        refine cBlock ?_
        refine cSeq ?_
        refine cSeq ?_
        have hil : i < (ByteArray.size (body b)) := by have h0 := of_decide_eq_true hc2; omega
        by_cases hq0 : i = q
        · skip
          have hlh : ¬ (48 ≤ sb (body b) i ∧ sb (body b) i ≤ 57) := by rw [hq0]; exact hq3
          by_cases hlo : sb (body b) i < 48
          · skip
            refine cReg ?_
            refine mV hTT _ rfl ?_
            refine mV hTT _ rfl ?_
            refine mX (.d (.one (.v (.int .u8 (sb (body b) i : Int))))) (xIx (b := (body b)) (z := ((i : Nat) : Int)) rfl Try.underlying9 rfl rfl (by omega) (by omega)) ?_
            refine mV hTT (.d (.one (.v (.bool true)))) (evb (decide_eq_true (by omega))) ?_
            refine mV hTT _ rfl ?_
            refine mG rfl rfl ?_
            refine mG rfl rfl ?_
            refine mG rfl rfl ?_
            refine mG rfl rfl ?_
            refine mV hTT _ rfl ?_
            refine mNil ?_
            refine tN ?_
            refine cT rfl ?_
            refine cSeq ?_
            refine cReg ?_
            refine mV hTT (.d (.agg ([.v (.slice none 0 0), .v (.bool false)]))) rfl ?_
            refine mS hTT 2 (.box 31 ([.v (.slice none 0 0), .v (.bool false)])) rfl ?_
            refine mV hTT _ rfl ?_
            refine mNil ?_
            refine tN ?_
            refine cRet ?_
            refine tR ?_
            refine bR ?_
            refine tR ?_
            refine tR ?_
            refine bR ?_
            refine tR ?_
            exact rQ rfl (AV.le.rfl)
          · skip
            refine cReg ?_
            refine mV hTT _ rfl ?_
            refine mV hTT _ rfl ?_
            refine mX (.d (.one (.v (.int .u8 (sb (body b) i : Int))))) (xIx (b := (body b)) (z := ((i : Nat) : Int)) rfl Try.underlying9 rfl rfl (by omega) (by omega)) ?_
            refine mV hTT (.d (.one (.v (.bool false)))) (evb (decide_eq_false (by omega))) ?_
            refine mV hTT _ rfl ?_
            refine mV hTT _ rfl ?_
            refine mV hTT _ rfl ?_
            refine mX (.d (.one (.v (.int .u8 (sb (body b) i : Int))))) (xIx (b := (body b)) (z := ((i : Nat) : Int)) rfl Try.underlying9 rfl rfl (by omega) (by omega)) ?_
            refine mV hTT (.d (.one (.v (.bool true)))) (evb (decide_eq_true (by omega))) ?_
            refine mV hTT _ rfl ?_
            refine mNil ?_
            refine tN ?_
            refine cT rfl ?_
            refine cSeq ?_
            refine cReg ?_
            refine mV hTT (.d (.agg ([.v (.slice none 0 0), .v (.bool false)]))) rfl ?_
            refine mS hTT 2 (.box 31 ([.v (.slice none 0 0), .v (.bool false)])) rfl ?_
            refine mV hTT _ rfl ?_
            refine mNil ?_
            refine tN ?_
            refine cRet ?_
            refine tR ?_
            refine bR ?_
            refine tR ?_
            refine tR ?_
            refine bR ?_
            refine tR ?_
            exact rQ rfl (AV.le.rfl)
        · skip
          have hdg : isDg (body b) i := hq2 _ (by omega)
          obtain ⟨hd1, hd2⟩ := hdg
          refine cReg ?_
          refine mV hTT _ rfl ?_
          refine mV hTT _ rfl ?_
          refine mX (.d (.one (.v (.int .u8 (sb (body b) i : Int))))) (xIx (b := (body b)) (z := ((i : Nat) : Int)) rfl Try.underlying9 rfl rfl (by omega) (by omega)) ?_
          refine mV hTT (.d (.one (.v (.bool false)))) (evb (decide_eq_false (by omega))) ?_
          refine mV hTT _ rfl ?_
          refine mV hTT _ rfl ?_
          refine mV hTT _ rfl ?_
          refine mX (.d (.one (.v (.int .u8 (sb (body b) i : Int))))) (xIx (b := (body b)) (z := ((i : Nat) : Int)) rfl Try.underlying9 rfl rfl (by omega) (by omega)) ?_
          refine mV hTT (.d (.one (.v (.bool false)))) (evb (decide_eq_false (by omega))) ?_
          refine mV hTT _ rfl ?_
          refine mNil ?_
          refine tN ?_
          refine cF rfl ?_
          refine cSkip ?_
          refine tN ?_
          have hlt := dvl_lt (body b) (k := i + 1) (fun j hj => by rcases Nat.eq_or_lt_of_le (Nat.le_of_lt_succ hj) with e | e; exact e ▸ ⟨hd1, hd2⟩; exact hq2 j (by omega))
          have hB4 : dvl (body b) i * 10 + (sb (body b) i - 48) < B4 ^ (i + 1 + 1) := Nat.lt_of_lt_of_le hlt (Nat.le_trans (Nat.pow_le_pow_left (by decide) (i + 1)) (Nat.pow_le_pow_right (by decide) (by omega)))
          refine cReg ?_
          refine mV hTT _ rfl ?_
          refine mV hTT _ rfl ?_
          refine mV hTT _ rfl ?_
          refine mX (.d (.one (.v (.int .u8 (sb (body b) i : Int))))) (xIx (b := (body b)) (z := ((i : Nat) : Int)) rfl Try.underlying9 rfl rfl (by omega) (by omega)) ?_
          refine mV hTT (.d (.one (.v (.int .u8 (((sb (body b) i - 48) : Nat) : Int))))) (evi ((wr8 (by omega) (by omega)).trans (by omega))) ?_
          refine mV hTT (.d (.one (.v (.int .i64 (((sb (body b) i - 48) : Nat) : Int))))) (evi (wr64 (by omega) (by omega))) ?_
          refine mC0 (aMulAdd (isd (i + 1) (dvl (body b) i)) (q := 10) (c0 := (sb (body b) i - 48)) (M := (i + 1 + 1)) (by decide) (by omega) hB4 (by omega)) rfl rfl rfl ?_
          refine mV hTT _ rfl ?_
          refine mNil ?_
          refine bN ?_
          refine tN ?_
          refine cReg ?_
          refine mV hTT _ rfl ?_
          refine mV hTT (.d (.one (.v (.int .i64 (IntKind.i64.wrap (((i : Nat) : Int) + 1)))))) rfl ?_
          refine mV hTT _ rfl ?_
          refine mNil ?_
          exact ⟨(i + 1), ⟨by omega, by omega⟩, by omega, wk (sl := [(0, .d (.one (.v (.string (body b))))), (2, .ptr 2 0), (3, .d (.one (.v (.bool false)))), (4, .d (.one (.v (.bool false)))), (5, .d (.one (dn ((i + 1) + 1) (dvl (body b) (i + 1))))), (6, .d (.one (.v (.int .i64 (((i + 1) : Nat) : Int)))))]) (hp := [(2, .box 31 ([.v (.slice none 0 0), .v (.bool false)]))]) rfl ⟨hs rfl, hs rfl, hs rfl, hs rfl, hs rfl, hs' rfl (le_int (inc64 (by omega))), trivial⟩ ⟨ho rfl, trivial⟩ rfl⟩
      · skip
        refine cExit ?_
        refine tE ?_
        refine tE ?_
        refine bE ?_
        refine tN ?_
        refine cSeq ?_
        exfalso
        have h0 := of_decide_eq_false hc2
        omega
    · skip
      exfalso
      rw [hbd] at hs1
      omega

theorem aRBad {b : ByteArray} (h : ¬ okT b) : ACall Try.prog 14 [.one (.v (.string b))] (.tup [.agg [.v (.slice none 0 0), .v (.bool false)], .one (.v (.bool false))]) := by
  rcases okD_or (body b) with k | k | ⟨k, q, h1, h2, h3⟩
  · exact absurd k h
  · exact aRBad1 k
  · exact aRBad2 k h1 h2 h3
end Go.Proofs.Ytoagihianelhjaa

/-
  PLAIN LAW of chapter 3 (2): digits by fours; noughts ahead; texts as they are printed. No condition; nothing of the program.
-/
set_option linter.unusedVariables false
set_option linter.unusedSimpArgs false
namespace Go.Proofs.Ytoagihianelhjaa
open Go.RowKit

theorem dig4_get {m : Nat} : ∀ {i : Nat}, i < (digs4 m).length → (digs4 m).getD i 0 = m / 10000 ^ i % 10000 := by
  intro i
  unfold digs4
  induction i generalizing m with
  | zero =>
    intro hi
    have hm : m ≠ 0 := fun e => by subst e; exact absurd hi (Nat.not_lt_zero _)
    rw [digs_pos B4_two hm, Nat.pow_zero, Nat.div_one]; rfl
  | succ i ih =>
    intro hi
    have hm : m ≠ 0 := fun e => by subst e; exact absurd hi (Nat.not_lt_zero _)
    rw [digs_pos B4_two hm] at hi ⊢
    rw [List.getD_cons_succ, ih (by simpa using hi), Nat.pow_succ, Nat.div_div_eq_div_mul, Nat.mul_comm]
theorem group4_dig (m c k : Nat) (hk : k < 4) : m / 10000 ^ c % 10000 / 10 ^ k % 10 = m / 10 ^ (4 * c + k) % 10 := by
  rw [show (10000 : Nat) ^ c = 10 ^ (4 * c) from by rw [Nat.pow_mul], Nat.pow_add, ← Nat.div_div_eq_div_mul]
  generalize m / 10 ^ (4 * c) = q
  have h1 : (10000 : Nat) = 10 ^ k * 10 * 10 ^ (3 - k) := by
    rw [← Nat.pow_succ, ← Nat.pow_add, show k + 1 + (3 - k) = 4 by omega]
  rw [h1, Nat.mul_assoc, Nat.mod_mul_right_div_self, Nat.mod_mul_right_mod]
theorem dlen_4 (m : Nat) : dlen m ≤ 4 * (digs4 m).length := by
  refine digs_length_le (by decide) ?_
  have h := digs_length_lt B4_two m
  rw [Nat.pow_mul]
  exact h
theorem getD_lt4 (m i : Nat) : (digs4 m).getD i 0 < 10000 := by
  rw [List.getD_eq_getElem?_getD]
  cases hx : (digs4 m)[i]? with
  | none => decide
  | some x => exact digs4_lt m x (List.mem_of_getElem? hx)
/-! ### Noughts ahead -/
def zpre : Nat → ByteArray → ByteArray
  | 0, b => b
  | n + 1, b => ⟨#[48]⟩ ++ zpre n b
theorem sb_one (x : UInt8) (b : ByteArray) (i : Nat) : sb ((⟨#[x]⟩ : ByteArray) ++ b) (i + 1) = sb b i := by
  rw [sb_appR (by show 1 ≤ i + 1; omega)]; rfl
theorem sb_fst (x : UInt8) (b : ByteArray) : sb ((⟨#[x]⟩ : ByteArray) ++ b) 0 = x.toNat := by
  rw [sb_appL (by show 0 < 1; omega)]; rfl
theorem size_one (x : UInt8) (b : ByteArray) : ((⟨#[x]⟩ : ByteArray) ++ b).size = b.size + 1 := by rw [size_app, Nat.add_comm]; rfl
theorem dvl_nought (b : ByteArray) : ∀ i, dvl ((⟨#[48]⟩ : ByteArray) ++ b) (i + 1) = dvl b i
  | 0 => by show 0 * 10 + (sb _ 0 - 48) = 0; rw [sb_fst]; rfl
  | i + 1 => by
    show dvl _ (i + 1) * 10 + (sb _ (i + 1) - 48) = dvl b i * 10 + (sb b i - 48)
    rw [dvl_nought b i, sb_one]
theorem zpre_size (b : ByteArray) : ∀ n, (zpre n b).size = b.size + n
  | 0 => rfl
  | n + 1 => by show ((⟨#[48]⟩ : ByteArray) ++ zpre n b).size = _; rw [size_one, zpre_size b n]; rfl
theorem zpre_dg {b : ByteArray} (h : ∀ i, i < b.size → isDg b i) : ∀ n i, i < (zpre n b).size → isDg (zpre n b) i
  | 0, i, hi => h i hi
  | n + 1, 0, hi => by show 48 ≤ sb _ 0 ∧ sb _ 0 ≤ 57; rw [show zpre (n + 1) b = (⟨#[48]⟩ : ByteArray) ++ zpre n b from rfl, sb_fst]; decide
  | n + 1, i + 1, hi => by
    have h1 := zpre_dg h n i (by rw [zpre_size] at hi ⊢; omega)
    unfold isDg at h1 ⊢
    rw [show zpre (n + 1) b = (⟨#[48]⟩ : ByteArray) ++ zpre n b from rfl, sb_one]; exact h1
theorem zpre_dvl (b : ByteArray) : ∀ n, dvl (zpre n b) (zpre n b).size = dvl b b.size
  | 0 => rfl
  | n + 1 => by
    rw [show (zpre (n + 1) b).size = (zpre n b).size + 1 from by rw [zpre_size, zpre_size]; rfl]
    exact (dvl_nought _ _).trans (zpre_dvl b n)
/-- Digits without a sign. -/
theorem body_dg {b : ByteArray} (h : 1 ≤ b.size) (hd : isDg b 0) : isneg b = false ∧ body b = b := by
  have h1 : isneg b = false := decide_eq_false fun e => by unfold isDg at hd; omega
  exact ⟨h1, by unfold body; rw [h1]; rfl⟩
theorem body_neg (b : ByteArray) : isneg ((⟨#[45]⟩ : ByteArray) ++ b) = true ∧ body ((⟨#[45]⟩ : ByteArray) ++ b) = b := by
  have h1 : isneg ((⟨#[45]⟩ : ByteArray) ++ b) = true := decide_eq_true ⟨by rw [size_one]; omega, by rw [sb_fst]; rfl⟩
  refine ⟨h1, ?_⟩
  unfold body
  rw [h1]
  refine bytes_ext (by rw [if_pos rfl, size_ext (Nat.le_refl _), size_one]; omega) fun i hi => ?_
  rw [if_pos rfl] at hi ⊢
  rw [size_ext (Nat.le_refl _), size_one] at hi
  rw [sb_ext (Nat.le_refl _) (by rw [size_one]; omega), Nat.add_comm, sb_one]
/-- The text with noughts ahead. -/
def ztx (n : Nat) (z : Int) : ByteArray := if z < 0 then (⟨#[45]⟩ : ByteArray) ++ zpre n (mkS (dgL z)) else zpre n (mkS (dgL z))
theorem dgL_dg (z : Int) : ∀ i, i < (mkS (dgL z)).size → isDg (mkS (dgL z)) i := fun i hi => by
  rw [size_mkS] at hi
  unfold isDg
  rw [sb_mkS (dgL_lt z) hi]
  exact dgL_rng z _ (getD_mem hi)
theorem ztx_body (n : Nat) (z : Int) : isneg (ztx n z) = decide (z < 0) ∧ body (ztx n z) = zpre n (mkS (dgL z)) := by
  unfold ztx
  by_cases h : z < 0
  · rw [if_pos h, decide_eq_true h]; exact body_neg _
  · rw [if_neg h, decide_eq_false h]
    have hs : 1 ≤ (zpre n (mkS (dgL z))).size := by rw [zpre_size, size_mkS]; have := dgL_pos z; omega
    exact body_dg hs (zpre_dg (dgL_dg z) n 0 (by omega))
theorem ztx_ok {n : Nat} {z : Int} (h : (dgL z).length + n ≤ 400) : okT (ztx n z) := by
  unfold okT
  rw [(ztx_body n z).2]
  have hp := dgL_pos z
  exact ⟨by rw [zpre_size, size_mkS]; omega, by rw [zpre_size, size_mkS]; omega, zpre_dg (dgL_dg z) n⟩
theorem ztx_pvl (n : Nat) (z : Int) : pvl (ztx n z) = z := by
  unfold pvl
  rw [(ztx_body n z).1, (ztx_body n z).2, zpre_dvl]
  have h := pvl_txt z
  unfold pvl at h
  rw [isneg_txt, body_txt] at h
  exact h
theorem txt_body (z : Int) : txt z = if z < 0 then (⟨#[45]⟩ : ByteArray) ++ mkS (dgL z) else mkS (dgL z) := by
  by_cases h : z < 0
  · rw [if_pos h]
    have e : txt z = mkS (45 :: dgL z) := by unfold txt; rw [txL_dg, if_pos h]; rfl
    have hl : ∀ x ∈ 45 :: dgL z, x < 256 := fun x hx => by
      rcases List.mem_cons.1 hx with rfl | hx
      · decide
      · exact dgL_lt z x hx
    rw [e]
    refine bytes_ext (by rw [size_one, size_mkS, size_mkS, List.length_cons]) fun i hi => ?_
    rw [size_mkS] at hi
    rw [sb_mkS hl hi]
    cases i with
    | zero => rw [sb_fst]; rfl
    | succ i => rw [sb_one, List.getD_cons_succ, sb_mkS (dgL_lt z) (by simpa using hi)]
  · rw [if_neg h]; unfold txt; rw [txL_dg, if_neg h]; rfl
end Go.Proofs.Ytoagihianelhjaa

/-
  POLYNOMIALS, by the machine (1).
-/
set_option linter.unusedVariables false
set_option linter.unusedSimpArgs false
namespace Go.Proofs.Ytoagihianelhjaa
open Go.RowKit

end Go.Proofs.Ytoagihianelhjaa

/-
  POLYNOMIALS, by the machine (2): the plain reckoning; what is handed in, cut.
-/
set_option linter.unusedVariables false
set_option linter.unusedSimpArgs false
namespace Go.Proofs.Ytoagihianelhjaa
open Go.RowKit

set_option maxRecDepth 100000 in
set_option maxHeartbeats 4000000 in
theorem aKInt {K k : Nat} {s : Bool} {xs : List Nat} (hk : k ≤ 1000000 := by decide) (hK : K ≤ 9223372036854775807 := by decide) : ACall Try.prog 8 [.agg [.v (.bool s), lr K xs], .one (.v (.int .i64 (k : Int)))] (.d (.agg [.v (.bool s), lr k (xs.take k)])) := by
  refine acallN hTT 12 [.cell 4 24] Try.func8 rfl rfl rfl rfl rfl ?_
  refine cSeq ?_
  refine cReg ?_
  refine mN hTT (.box 24 ([.v (.bool s), lr K xs])) rfl rfl rfl ?_
  refine mN hTT (.box 24 ([.v (.bool false), .v (.slice none 0 0)])) rfl rfl rfl ?_
  refine mNil ?_
  refine tN ?_
  refine cSeq ?_
  refine cDrawK hTT 7 (by kernel_rfl) (by kernel_rfl) (by kernel_rfl) ?_
  refine .cons (OpS.V (.ptr 2 0) rfl) ?_
  refine .cons (OpS.V (.d (.one (.v (.bool s)))) rfl) ?_
  refine .cons (OpS.V (.ptr 2 1) rfl) ?_
  refine .cons (OpS.V (.d (.one (lr K xs))) rfl) ?_
  refine .cons (OpS.V _ rfl) ?_
  refine .cons (OpS.C0 (aRow (K := K) (k := k) (xs := xs) (by omega) (by omega)) rfl rfl rfl) ?_
  refine .cons (OpS.V (.d (.agg ([.v (.bool s), lr k (xs.take k)]))) rfl) ?_
  refine .nil ?_
  refine mS hTT 4 (.box 24 ([.v (.bool s), lr k (xs.take k)])) rfl ?_
  refine mNil ?_
  refine tN ?_
  refine cRet ?_
  exact rQ rfl (AV.le.rfl)

end Go.Proofs.Ytoagihianelhjaa

/-
  RATIONALS of the program, by the machine.
-/
set_option linter.unusedVariables false
set_option linter.unusedSimpArgs false
namespace Go.Proofs.Ytoagihianelhjaa
open Go.RowKit

end Go.Proofs.Ytoagihianelhjaa

/-
  RATIONALS of the program, by the machine (2).
-/
set_option linter.unusedVariables false
set_option linter.unusedSimpArgs false
namespace Go.Proofs.Ytoagihianelhjaa
open Go.RowKit

theorem mkR_sub (a b : Rat) : Rat.divInt (a.num * b.den - b.num * a.den) (a.den * b.den) = a - b := by
  have h := mkR_add a (-b)
  rw [mkR_ne (Int.mul_ne_zero (den_ne a) (den_ne (-b))), Rat.neg_num, Rat.neg_den, Int.neg_mul, ← Int.sub_eq_add_neg, ← Rat.sub_eq_add_neg] at h
  exact h
theorem mkR_nz (a b : Rat) : (a.den : Int) * (b.den : Int) ≠ 0 := Int.mul_ne_zero (den_ne a) (den_ne b)
end Go.Proofs.Ytoagihianelhjaa

/-
  PLAIN LAW of chapter 4: which of two rationals is greater; the middle, the whole number below. No condition; nothing of the program.
-/
set_option linter.unusedVariables false
set_option linter.unusedSimpArgs false
namespace Go.Proofs.Ytoagihianelhjaa
open Go.RowKit

theorem mkR_self (q : Rat) : mkR q.num (q.den : Int) = q := by rw [mkR_ne (den_ne q), Rat.num_divInt_den]
theorem cmpQ_eq {a b : Rat} (h : a = b) : cmpQ a b = 0 := by subst h; unfold cmpQ cmpZ; simp
theorem cmpQ_lt {x y : Rat} (h : x < y) : cmpQ x y = -1 := by
  have := (Rat.lt_iff x y).1 h
  unfold cmpQ cmpZ
  (repeat' split) <;> omega
theorem cmpQ_gt {x y : Rat} (h : y < x) : cmpQ x y = 1 := by
  have := (Rat.lt_iff y x).1 h
  unfold cmpQ cmpZ
  (repeat' split) <;> omega
theorem ratTri (x y : Rat) : x < y ∨ x = y ∨ y < x := by
  by_cases h : x < y
  · exact Or.inl h
  · by_cases k : y < x
    · exact Or.inr (Or.inr k)
    · exact Or.inr (Or.inl (by grind))
theorem cmpQ_spec (x y : Rat) : (x < y ∧ cmpQ x y = -1) ∨ (x = y ∧ cmpQ x y = 0) ∨ (y < x ∧ cmpQ x y = 1) := by
  rcases ratTri x y with h | h | h
  · exact Or.inl ⟨h, cmpQ_lt h⟩
  · exact Or.inr (Or.inl ⟨h, cmpQ_eq h⟩)
  · exact Or.inr (Or.inr ⟨h, cmpQ_gt h⟩)
theorem cmpQ_bd (x y : Rat) : -1 ≤ cmpQ x y ∧ cmpQ x y ≤ 1 := by rcases cmpQ_spec x y with ⟨_, h⟩ | ⟨_, h⟩ | ⟨_, h⟩ <;> omega
theorem cmpQ_le {x y : Rat} : cmpQ x y ≤ 0 ↔ x ≤ y := by
  rcases cmpQ_spec x y with ⟨h, e⟩ | ⟨h, e⟩ | ⟨h, e⟩ <;> rw [e] <;> constructor <;> intro k <;> first | omega | grind
theorem cmpQ_ge {x y : Rat} : cmpQ x y ≥ 0 ↔ y ≤ x := by
  rcases cmpQ_spec x y with ⟨h, e⟩ | ⟨h, e⟩ | ⟨h, e⟩ <;> rw [e] <;> constructor <;> intro k <;> first | omega | grind
theorem cmpQ_zero {x y : Rat} : cmpQ x y = 0 ↔ x = y := by
  rcases cmpQ_spec x y with ⟨h, e⟩ | ⟨h, e⟩ | ⟨h, e⟩ <;> rw [e] <;> constructor <;> intro k <;> first | omega | grind
theorem cmpQ_anti (x y : Rat) : cmpQ y x = -cmpQ x y := by
  rcases cmpQ_spec x y with ⟨h, e⟩ | ⟨h, e⟩ | ⟨h, e⟩
  · rw [e, cmpQ_gt h]; rfl
  · rw [e, cmpQ_eq h.symm]; rfl
  · rw [e, cmpQ_lt h]
theorem cmpQ_congr {x y x' y' : Rat} (h1 : x < y ↔ x' < y') (h2 : y < x ↔ y' < x') : cmpQ x y = cmpQ x' y' := by
  rcases cmpQ_spec x y with ⟨h, e⟩ | ⟨h, e⟩ | ⟨h, e⟩
  · rw [e, cmpQ_lt (h1.1 h)]
  · rw [e, cmpQ_eq]
    have a1 : ¬ x' < y' := fun k => by have := h1.2 k; grind
    have a2 : ¬ y' < x' := fun k => by have := h2.2 k; grind
    grind
  · rw [e, cmpQ_gt (h2.1 h)]
theorem cmpQ_add (x y z : Rat) : cmpQ (x + z) (y + z) = cmpQ x y := cmpQ_congr (by constructor <;> intro h <;> grind) (by constructor <;> intro h <;> grind)
theorem cmpQ_neg (x y : Rat) : cmpQ (-x) (-y) = -cmpQ x y := by rw [← cmpQ_anti]; exact cmpQ_congr (by constructor <;> intro h <;> grind) (by constructor <;> intro h <;> grind)
theorem cmpQ_midl (x y : Rat) : cmpQ x ((x + y) / 2) = cmpQ x y := cmpQ_congr (by constructor <;> intro h <;> grind) (by constructor <;> intro h <;> grind)
theorem cmpQ_midr (x y : Rat) : cmpQ ((x + y) / 2) y = cmpQ x y := cmpQ_congr (by constructor <;> intro h <;> grind) (by constructor <;> intro h <;> grind)
theorem sgn_num (q : Rat) : sgn q.num = cmpQ q 0 := by
  unfold cmpQ cmpZ sgn
  have h1 : (0 : Rat).num = 0 := rfl
  have h2 : ((0 : Rat).den : Int) = 1 := rfl
  rw [h1, h2, Int.mul_one, Int.zero_mul]
theorem sgn_sub (x y : Rat) : sgn (x - y).num = cmpQ x y := by
  rw [sgn_num]
  exact cmpQ_congr (by constructor <;> intro h <;> grind) (by constructor <;> intro h <;> grind)
theorem floor_q (q : Rat) : q.num / (q.den : Int) = q.floor := (Rat.floor_def q).symm
theorem floor_le' (q : Rat) : ((q.num / (q.den : Int) : Int) : Rat) ≤ q := by rw [floor_q]; exact Rat.floor_le q
theorem floor_gt' (q : Rat) : q < ((q.num / (q.den : Int) : Int) : Rat) + 1 := by
  rw [floor_q]
  have := Rat.lt_floor (x := q)
  grind
theorem mid_div (P Q : Rat) : Rat.divInt (P.num * Q.den + Q.num * P.den) (P.den * Q.den * 2) = (P + Q) / 2 := by
  have h1 := mkR_add P Q
  rw [mkR_ne (Int.mul_ne_zero (den_ne P) (den_ne Q))] at h1
  have h2 : Rat.divInt 1 2 = (1 : Rat) / 2 := by decide +kernel
  rw [← Int.mul_one (P.num * Q.den + Q.num * P.den), ← Rat.divInt_mul_divInt, h1, h2]
  grind
theorem half_mul (P Q : Rat) : (P + Q) * mkR 1 2 = (P + Q) / 2 := by
  have h2 : mkR 1 2 = (1 : Rat) / 2 := by decide +kernel
  rw [h2]; grind
theorem num_ne {q : Rat} (h : q ≠ 0) : q.num ≠ 0 := fun e => h (Rat.num_eq_zero.1 e)
theorem quo_div {P Q : Rat} (h : Q ≠ 0) : Rat.divInt (P.num * Q.den) (P.den * Q.num) = P / Q := by
  have := mkR_quo P Q h
  rwa [mkR_ne (Int.mul_ne_zero (den_ne P) (num_ne h))] at this
theorem mkR_scale {n d m : Int} (hd : d ≠ 0) (hm : m ≠ 0) : mkR (n * m) (d * m) = mkR n d := by
  rw [mkR_ne (Int.mul_ne_zero hd hm), mkR_ne hd, Int.mul_comm n m, Int.mul_comm d m, Rat.divInt_mul_left hm]
/-- The sum, the greatest of many. -/
def tsum (q : Nat → Rat) : Nat → Rat
  | 0 => 0
  | i + 1 => tsum q i + q i
def tmax (a : Rat) (q : Nat → Rat) : Nat → Rat
  | 0 => a
  | i + 1 => if cmpQ (q i) (tmax a q i) > 0 then q i else tmax a q i
theorem tmax_ge (a : Rat) (q : Nat → Rat) : ∀ n, a ≤ tmax a q n ∧ (∀ i, i < n → q i ≤ tmax a q n) ∧ (tmax a q n = a ∨ ∃ i, i < n ∧ tmax a q n = q i)
  | 0 => ⟨by show a ≤ a; grind, fun i hi => absurd hi (Nat.not_lt_zero _), Or.inl rfl⟩
  | n + 1 => by
    obtain ⟨h1, h2, h3⟩ := tmax_ge a q n
    unfold tmax
    by_cases h : cmpQ (q n) (tmax a q n) > 0
    · rw [if_pos h]
      have hlt : tmax a q n < q n := by
        rcases cmpQ_spec (q n) (tmax a q n) with ⟨k, e⟩ | ⟨k, e⟩ | ⟨k, e⟩
        · omega
        · omega
        · exact k
      refine ⟨by grind, fun i hi => ?_, Or.inr ⟨n, by omega, rfl⟩⟩
      rcases Nat.eq_or_lt_of_le (Nat.le_of_lt_succ hi) with e | e
      · subst e; grind
      · have := h2 i e; grind
    · rw [if_neg h]
      have hle : q n ≤ tmax a q n := cmpQ_le.1 (by omega)
      refine ⟨h1, fun i hi => ?_, ?_⟩
      · rcases Nat.eq_or_lt_of_le (Nat.le_of_lt_succ hi) with e | e
        · subst e; exact hle
        · exact h2 i e
      · rcases h3 with h3 | ⟨i, hi, e⟩
        · exact Or.inl h3
        · exact Or.inr ⟨i, by omega, e⟩
theorem ist_zz (K : Nat) (n d : Int) : IsT (zn K n ++ zn K d) K n d := ⟨decide (n < 0), limbs n.natAbs, decide (d < 0), limbs d.natAbs, fun _ _ _ h => h, by rw [val_limbs]; exact zv_natAbs _, by rw [val_limbs]; exact zv_natAbs _⟩
theorem sgn_den (q : Rat) : sgn (q.den : Int) > 0 := by
  have h := q.den_pos
  unfold sgn
  (repeat' split) <;> omega
theorem gcd_red (q : Rat) : gcdN (lin q.num (q.den : Int)) 2 = 1 := by
  rw [gcdN_two]
  exact q.reduced
theorem den_pos (q : Rat) : (0 : Int) < (q.den : Int) := by have := q.den_pos; omega
theorem zv_lt {s : Bool} {m : Nat} : zv s m < 0 ↔ s = true ∧ m ≠ 0 := by
  cases s
  · show (m : Int) < 0 ↔ _
    constructor <;> intro h
    · omega
    · exact absurd h.1 (by decide)
  · show -(m : Int) < 0 ↔ _
    constructor <;> intro h
    · exact ⟨rfl, by omega⟩
    · have := h.2; omega
/-- Division by a number above 0, out of the sizes'. -/
theorem dmP {x y : Int} (hy : 0 < y) (h : ¬ (x < 0 ∧ x.natAbs % y.natAbs ≠ 0)) : zv (decide (x < 0)) (x.natAbs / y.natAbs) = x / y ∧ zv (decide (x < 0)) (x.natAbs % y.natAbs) = x % y := by
  obtain ⟨n, rfl⟩ := Int.eq_ofNat_of_zero_le (Int.le_of_lt hy)
  rw [show Int.natAbs (n : Int) = n from rfl]
  have hn : 0 < n := by omega
  by_cases hx : x < 0
  · rw [show Int.natAbs (n : Int) = n from rfl] at h
    have h0 : x.natAbs % n = 0 := Classical.byContradiction fun e => h ⟨hx, e⟩
    obtain ⟨m, hm⟩ : ∃ m : Nat, m = x.natAbs := ⟨_, rfl⟩
    have hxm : x = -(m : Int) := by omega
    rw [← hm] at h0 ⊢
    have hd := Nat.div_add_mod m n
    have hu := (Int.ediv_emod_unique (a := x) (b := (n : Int)) (r := 0) (q := -((m / n : Nat) : Int)) hy).2 ⟨by
      rw [Int.mul_neg, ← Int.natCast_mul]; omega, Int.le_refl _, hy⟩
    rw [decide_eq_true hx, h0, hu.1, hu.2]
    exact ⟨rfl, rfl⟩
  · obtain ⟨m, rfl⟩ := Int.eq_ofNat_of_zero_le (Int.not_lt.1 hx)
    rw [decide_eq_false hx, show Int.natAbs (m : Int) = m from rfl]
    exact ⟨Int.natCast_ediv _ _, Int.natCast_emod _ _⟩
theorem dmN {x y : Int} (hy : 0 < y) (h : x < 0 ∧ x.natAbs % y.natAbs ≠ 0) : zv (decide (x < 0)) (x.natAbs / y.natAbs) - 1 = x / y ∧ zv (decide (x < 0)) (x.natAbs % y.natAbs) + y = x % y := by
  obtain ⟨n, rfl⟩ := Int.eq_ofNat_of_zero_le (Int.le_of_lt hy)
  rw [show Int.natAbs (n : Int) = n from rfl] at h ⊢
  obtain ⟨hx, h0⟩ := h
  have hn : 0 < n := by omega
  obtain ⟨m, hm⟩ : ∃ m : Nat, m = x.natAbs := ⟨_, rfl⟩
  have hxm : x = -(m : Int) := by omega
  rw [← hm] at h0 ⊢
  have hd := Nat.div_add_mod m n
  have hlt := Nat.mod_lt m hn
  have hu := (Int.ediv_emod_unique (a := x) (b := (n : Int)) (r := (n : Int) - ((m % n : Nat) : Int)) (q := -((m / n : Nat) : Int) - 1) hy).2 ⟨by
    rw [Int.mul_sub, Int.mul_neg, ← Int.natCast_mul, Int.mul_one]; omega, by omega, by omega⟩
  rw [decide_eq_true hx, hu.1, hu.2]
  exact ⟨rfl, by show -((m % n : Nat) : Int) + (n : Int) = _; omega⟩
end Go.Proofs.Ytoagihianelhjaa

/-
  A SLICE OF INTEGERS THAT CAME IN, AS THE WALKS READ IT ('Rw').
-/
set_option linter.unusedVariables false
set_option linter.unusedSimpArgs false
namespace Go.Proofs.Ytoagihianelhjaa
open Go.RowKit

/-- A row that came in (in the words of the rows' shells) is a row as the walks read it: kind k, each from 0 to B - 1. -/
theorem rw_in {k : IntKind} {B : Nat} {w : World} {a : Option Addr} {len cap : Nat} {zs : List Int}
    (h : (a = none ∧ len = 0 ∧ cap = 0 ∧ zs = []) ∨ ∃ x, a = some x ∧ len ≤ cap ∧ cap ≤ maxLen ∧ zs.length = cap ∧ (∀ i, i < zs.length → w.cell? (x.add i) = some (.int k (zs.getD i 0))) ∧ ∀ n ∈ zs, (Lit.int k n).wf = true)
    (hk : ∀ z : Int, (Lit.int k z).wf = true → 0 ≤ z ∧ z < (B : Int)) :
    len ≤ 9223372036854775807 ∧ ∃ xs, Rw k B w a len cap xs := by
  rcases h with ⟨rfl, rfl, rfl, rfl⟩ | ⟨x, rfl, hlc, hcm, hz, hcell, hwf⟩
  · exact ⟨by omega, [], Rw.nil k B w⟩
  · have hm : maxLen = 9223372036854775807 := by decide
    refine ⟨by omega, (zs.take len).map Int.toNat, by rw [List.length_map, List.length_take]; omega, hlc, (fun e => nomatch e), ?_, ?_⟩
    · intro n hn
      obtain ⟨z, hz, rfl⟩ := List.mem_map.1 hn
      have := hk z (hwf z (List.mem_of_mem_take hz))
      omega
    · by_cases h0 : len = 0
      · left; subst h0; rfl
      · right
        obtain ⟨b, off, sp⟩ := x
        have hc0 := hcell 0 (by omega)
        obtain rfl : sp = none := by
          cases sp with
          | none => rfl
          | some s =>
            exfalso
            simp only [Addr.add, if_true, World.cell?] at hc0
            split at hc0 <;> simp_all
        refine ⟨b, off, rfl, fun j hj => ?_⟩
        have hj2 : j < len := by simp [ints] at hj; omega
        have hcj := hcell j (by omega)
        have hzj : zs.getD j 0 = zs[j]'(by omega) := by rw [List.getD_eq_getElem?_getD, List.getElem?_eq_getElem (by omega)]; rfl
        have e1 : (⟨b, off, none⟩ : Addr).add j = ⟨b, off + j, none⟩ := by
          unfold Addr.add
          split
          · next h => subst h; rfl
          · rfl
        rw [e1, hzj] at hcj
        rw [hcj]
        have hw := hk _ (hwf _ (List.getElem_mem (l := zs) (n := j) (by omega)))
        simp only [ints, List.map_map, List.getElem_map, List.getElem_take, Function.comp]
        rw [Int.toNat_of_nonneg hw.1]

theorem wf_u32 (z : Int) (h : (Lit.int .u32 z).wf = true) : 0 ≤ z ∧ z < (B32 : Int) := by
  simp only [Lit.wf, Bool.and_eq_true, decide_eq_true_eq] at h
  have h1 : IntKind.u32.min = 0 := by decide
  have h2 : IntKind.u32.max = 4294967295 := by decide
  have h3 : (B32 : Int) = 4294967296 := by decide
  omega

theorem wf_int {z : Int} (h : (Lit.int .i64 z).wf = true) : -9223372036854775808 ≤ z ∧ z ≤ 9223372036854775807 := by
  simp only [Lit.wf, Bool.and_eq_true, decide_eq_true_eq] at h
  have h1 : IntKind.i64.min = -9223372036854775808 := by decide
  have h2 : IntKind.i64.max = 9223372036854775807 := by decide
  omega

end Go.Proofs.Ytoagihianelhjaa

/-
  WHAT COMES IN: rows of limbs, rows of rows, as the walks read them.
-/
set_option linter.unusedVariables false
set_option linter.unusedSimpArgs false
namespace Go.Proofs.Ytoagihianelhjaa
open Go.RowKit Go.ChangeShapes Go.WideShapes

section
variable {H : Type} {enc : TypeId × Value → H} {P : Program} {w : World}

/-- A row of limbs that came in. -/
theorem in_u32s {t e : TypeId} {fuel : Nat} {cs : List Value} {x : DataW H × List MemPlace} (ht : P.underlying t = some (.slice e)) (he : P.underlying e = some (.int .u32)) (hc : P.cellsOf e = 1)
    (h : DataW.trod enc P w 0 (fun _ => true) true fuel t cs = some x) :
    ∃ a len cap, cs = [.slice a len cap] ∧ len ≤ 9223372036854775807 ∧ ∃ xs, Rw .u32 B32 w a len cap xs := by
  rcases open_ints ht he hc h with ⟨rfl, _⟩ | ⟨a, l, c, zs, rfl, _, hl, hm, hz, _, hcell, hwz⟩
  · exact ⟨none, 0, 0, rfl, by omega, [], Rw.nil _ _ _⟩
  · exact ⟨some a, l, c, rfl, rw_in (.inr ⟨_, rfl, hl, hm, by simpa using hz, hcell, hwz⟩) wf_u32⟩

/-- A row of rows of limbs that came in: each element is a row of limbs. -/
def InRows (w : World) (ao : Option Addr) (n : Nat) : Prop :=
  ∀ j, j < n → ∃ b off a k d xs, ao = some ⟨b, off, none⟩ ∧ w.cell? ⟨b, off + j, none⟩ = some (.slice a k d) ∧ k ≤ 9223372036854775807 ∧ Rw .u32 B32 w a k d xs

theorem add_plain {b off j : Nat} : (⟨b, off, none⟩ : Addr).add j = ⟨b, off + j, none⟩ := by
  unfold Addr.add
  split
  · next h => subst h; rfl
  · rfl

/-- The address of a cell that can be read has no spot. -/
theorem plain_of_cell {a : Addr} {v : Value} (h : w.cell? (a.add 0) = some v) : ∃ b off, a = ⟨b, off, none⟩ := by
  obtain ⟨b, off, sp⟩ := a
  cases sp with
  | none => exact ⟨b, off, rfl⟩
  | some s =>
    exfalso
    simp only [Addr.add, if_true, World.cell?] at h
    split at h <;> simp_all

theorem in_rows {t e e' : TypeId} {fuel : Nat} {cs : List Value} {x : DataW H × List MemPlace} (ht : P.underlying t = some (.slice e)) (he : P.underlying e = some (.slice e')) (he' : P.underlying e' = some (.int .u32)) (hc : P.cellsOf e = 1) (hc' : P.cellsOf e' = 1)
    (h : DataW.trod enc P w 0 (fun _ => true) true fuel t cs = some x) :
    ∃ a len cap, cs = [.slice a len cap] ∧ len ≤ 9223372036854775807 ∧ len ≤ cap ∧ InRows w a len := by
  rcases Go.Deep.open_slice1 ht hc h with ⟨rfl, _⟩ | ⟨a, len, cap, m, n, V, D, Pl, rfl, _, hl, hm, hmm, _, hx⟩
  · exact ⟨none, 0, 0, rfl, by omega, Nat.le_refl _, fun j hj => absurd hj (by omega)⟩
  · have hmax : maxLen = 9223372036854775807 := by decide
    refine ⟨some a, len, cap, rfl, by omega, hl, fun j hj => ?_⟩
    have hm2 : m = cap := by simpa using hmm
    obtain ⟨b, off, rfl⟩ := plain_of_cell (hx 0 (by omega)).1
    obtain ⟨h1, h2⟩ := hx j (by omega)
    obtain ⟨a', k, d, he1, hk, xs, hr⟩ := in_u32s he he' hc' h2
    rw [add_plain] at h1
    exact ⟨b, off, a', k, d, xs, rfl, by rw [h1]; exact congrArg some (List.cons.inj he1).1, hk, hr⟩

end
end Go.Proofs.Ytoagihianelhjaa

/-
  WHAT COMES IN, in the abstract machine's words; a law's answer as the rows ask for it. No condition; nothing of the program.
-/
set_option linter.unusedVariables false
set_option linter.unusedSimpArgs false
namespace Go.Proofs.Ytoagihianelhjaa
open Go.RowKit Go.ChangeShapes Go.WideShapes

def nb : BS := fun _ => False
abbrev MX : Nat := 9223372036854775807
theorem am_law {P : Program} {f : FuncId} {args : List DV} (h : ACall P f args (.d (.one (.v (.bool true))))) {w : World} {vs : List Value} (hvs : DsR nb w args vs) : Calls P f vs.toArray w fun e w' => e = .returned (.bool true) ∧ Below w.heap.size w w' :=
  (h.go nb w vs (fun _ h => h.elim) hvs).mono fun e w' ⟨v, he, hb, hv⟩ => ⟨by have h1 : v = .bool true := (show LfR nb w' (.v (.bool true)) v from hv).1; rw [he, h1], hb⟩

section
variable {H : Type} {enc : TypeId × Value → H} {P : Program} {w : World}
theorem am_lim {t e : TypeId} {fuel : Nat} {cs : List Value} {x : DataW H × List MemPlace} (ht : P.underlying t = some (.slice e)) (he : P.underlying e = some (.int .u32)) (hc : P.cellsOf e = 1)
    (h : DataW.trod enc P w 0 (fun _ => true) true fuel t cs = some x) : ∃ v xs, cs = [v] ∧ LfR nb w (lr MX xs) v := by
  obtain ⟨a, len, cap, e1, hl, xs, hr⟩ := in_u32s ht he hc h
  exact ⟨_, xs, e1, lr_R hr hl (fun _ _ _ h => h.elim)⟩
theorem am_int {r : Reach} {b0 : Nat} {t e : TypeId} {f0 f1 : Field} {v : Value} {d : DataW H} {p : List MemPlace} (hs : P.underlying t = some (.struct #[f0, f1])) (hone : Deep.oneCellFields P #[f0, f1] = true) (hC : P.cellsOf t = 2)
    (h0 : P.underlying f0.type = some .bool) (h1 : P.underlying f1.type = some (.slice e)) (he : P.underlying e = some (.int .u32)) (hc : P.cellsOf e = 1)
    (hv : Value.okWide P w r b0 t v) (h : DataW.Trod enc P w 0 (fun _ => true) true t v d p) :
    ∃ s xs, DR nb w (.agg [.v (.bool s), lr MX xs]) v := by
  obtain ⟨v0, v1, y0, y1, m, rfl, _, _, k0, k1⟩ := Joins.open_agg2 hs hone hC hv h
  obtain ⟨v1', xs, e1, hr⟩ := am_lim h1 he hc k1
  obtain ⟨s, e0⟩ : ∃ s, v0 = .bool s := by
    obtain ⟨b', hb, _⟩ := DataW.trod_bool h0 k0
    exact ⟨b', (List.cons.inj hb).1⟩
  subst e0
  obtain rfl := (List.cons.inj e1).1
  exact ⟨s, xs, _, rfl, ⟨rfl, rfl⟩, hr, trivial⟩
theorem am_pol {t e u : TypeId} {f0 f1 : Field} {fuel : Nat} {cs : List Value} {x : DataW H × List MemPlace} (ht : P.underlying t = some (.slice e)) (hs : P.underlying e = some (.struct #[f0, f1])) (hC : P.cellsOf e = 2)
    (ho : f0.offset = 0 ∧ f1.offset = 1 ∧ P.cellsOf f0.type = 1 ∧ P.cellsOf f1.type = 1)
    (h0 : P.underlying f0.type = some .bool) (h1 : P.underlying f1.type = some (.slice u)) (hu : P.underlying u = some (.int .u32)) (hc : P.cellsOf u = 1)
    (h : DataW.trod enc P w 0 (fun _ => true) true fuel t cs = some x) : ∃ v n f, cs = [v] ∧ LfR nb w (arow MX n f) v := by
  obtain ⟨o0, o1, k0, k1⟩ := ho
  rcases Go.Deep.open_slice ht h with ⟨hcs, _⟩ | ⟨a, len, cap, m, n, D, Pl, hcs, _, hl, hm, hmm, _, hx⟩
  · exact ⟨_, 0, fun _ => (false, []), hcs, none, 0, rfl, Nat.le_refl _, fun _ => rfl, fun i hi => absurd hi (Nat.not_lt_zero _)⟩
  · have hmax : maxLen = 9223372036854775807 := by decide
    have hm2 : m = cap := by simpa using hmm
    have key : ∀ j, j < len → ∃ F : Bool × List Nat, ∃ b off v1, a = ⟨b, off, none⟩ ∧ w.cell? ⟨b, off + j * 2, none⟩ = some (.bool F.1) ∧ w.cell? ⟨b, off + j * 2 + 1, none⟩ = some v1 ∧ LfR nb w (lr MX F.2) v1 := by
      intro j hj
      have hfirst : ∃ v0, w.cell? (a.add 0) = some v0 := by
        obtain ⟨cs, h2, _⟩ := hx 0 (by omega)
        rw [hC] at h2
        obtain ⟨_, hlen, hcell⟩ := World.cells?_some h2
        have h3 := hcell 0 (by omega)
        rw [Nat.zero_mul, show (a.add 0).add 0 = a.add 0 by simp [Addr.add]] at h3
        exact ⟨_, h3.trans (List.getElem?_eq_getElem (by omega))⟩
      obtain ⟨v0, hv0⟩ := hfirst
      obtain ⟨b, off, rfl⟩ := plain_of_cell hv0
      obtain ⟨cs, h2, h3⟩ := hx j (by omega)
      rw [hC] at h2
      obtain ⟨_, hlen, hcell⟩ := World.cells?_some h2
      obtain ⟨y0, y1, q, _, _, t0, t1⟩ := trod_struct2 hs h3
      match cs, hlen with
      | [c0, c1], _ =>
        rw [o0, k0] at t0
        rw [o1, k1] at t1
        obtain ⟨s, hb, _⟩ := DataW.trod_bool h0 t0
        obtain ⟨v1, xs, e1, hr⟩ := am_lim h1 hu hc t1
        obtain rfl : c0 = .bool s := (List.cons.inj hb).1
        obtain rfl : c1 = v1 := (List.cons.inj e1).1
        have g0 := hcell 0 (by simp)
        have g1 := hcell 1 (by simp)
        rw [add_plain, add_plain] at g0 g1
        exact ⟨(s, xs), b, off, c1, rfl, g0, g1, hr⟩
    refine ⟨_, len, fun j => if h : j < len then (key j h).choose else (false, []), hcs, some a, cap, rfl, hl, (fun e => nomatch e), fun j hj => ?_⟩
    obtain ⟨b, off, v1, rfl, h2, h3, h4⟩ := (key j hj).choose_spec
    refine ⟨b, off, rfl, fun h => h.elim, World.block_lt_of_cell? w _ h2, fun q hq => ?_⟩
    match q, hq with
    | 0, _ =>
      refine ⟨_, h2, ?_⟩
      show LfR nb w (.v (.bool (if h : j < len then (key j h).choose else (false, [])).1)) _
      rw [dif_pos hj]; exact ⟨rfl, rfl⟩
    | 1, _ =>
      refine ⟨_, h3, ?_⟩
      show LfR nb w (lr MX (if h : j < len then (key j h).choose else (false, [])).2) _
      rw [dif_pos hj]; exact h4
theorem am_pols {t s e u : TypeId} {f0 f1 : Field} {fuel : Nat} {cs : List Value} {x : DataW H × List MemPlace} (hts : P.underlying t = some (.slice s)) (hcs1 : P.cellsOf s = 1) (ht : P.underlying s = some (.slice e)) (hs : P.underlying e = some (.struct #[f0, f1])) (hC : P.cellsOf e = 2)
    (ho : f0.offset = 0 ∧ f1.offset = 1 ∧ P.cellsOf f0.type = 1 ∧ P.cellsOf f1.type = 1)
    (h0 : P.underlying f0.type = some .bool) (h1 : P.underlying f1.type = some (.slice u)) (hu : P.underlying u = some (.int .u32)) (hc : P.cellsOf u = 1)
    (h : DataW.trod enc P w 0 (fun _ => true) true fuel t cs = some x) : ∃ v n ns fs, cs = [v] ∧ LfR nb w (prows MX n ns fs) v := by
  rcases Go.Deep.open_slice1 hts hcs1 h with ⟨rfl, _⟩ | ⟨a, len, cap, m, n, V, D, Pl, rfl, _, hl, hm, hmm, _, hx⟩
  · exact ⟨_, 0, fun _ => 0, fun _ _ => (false, []), rfl, none, 0, rfl, Nat.le_refl _, fun _ => rfl, fun i hi => absurd hi (Nat.not_lt_zero _)⟩
  · have hm2 : m = cap := by simpa using hmm
    have key : ∀ j, j < len → ∃ F : Nat × (Nat → Bool × List Nat), ∃ b off v1, a = ⟨b, off, none⟩ ∧ w.cell? ⟨b, off + j, none⟩ = some v1 ∧ LfR nb w (arow MX F.1 F.2) v1 := by
      intro j hj
      obtain ⟨b, off, rfl⟩ := plain_of_cell (hx 0 (by omega)).1
      obtain ⟨h1', h2⟩ := hx j (by omega)
      obtain ⟨v, n', f, e1, hr⟩ := am_pol ht hs hC ho h0 h1 hu hc h2
      rw [add_plain] at h1'
      obtain e2 := (List.cons.inj e1).1
      exact ⟨(n', f), b, off, v, rfl, by rw [h1', e2], hr⟩
    refine ⟨_, len, fun j => if h : j < len then (key j h).choose.1 else 0, fun j => if h : j < len then (key j h).choose.2 else fun _ => (false, []), rfl, some a, cap, rfl, hl, (fun e => nomatch e), fun j hj => ?_⟩
    obtain ⟨b, off, v1, rfl, h2, h4⟩ := (key j hj).choose_spec
    refine ⟨b, off, rfl, fun h => h.elim, World.block_lt_of_cell? w _ h2, fun q hq => ?_⟩
    obtain rfl : q = 0 := by omega
    refine ⟨_, by rw [Nat.mul_one, Nat.add_zero]; exact h2, ?_⟩
    show LfR nb w (arow MX (if h : j < len then (key j h).choose.1 else 0) (if h : j < len then (key j h).choose.2 else fun _ => (false, []))) _
    rw [dif_pos hj, dif_pos hj]; exact h4
theorem am_i64s {t e : TypeId} {fuel : Nat} {cs : List Value} {x : DataW H × List MemPlace} (ht : P.underlying t = some (.slice e)) (he : P.underlying e = some (.int .i64)) (hc : P.cellsOf e = 1)
    (h : DataW.trod enc P w 0 (fun _ => true) true fuel t cs = some x) : ∃ v n c, cs = [v] ∧ LfR nb w (irow n c) v ∧ ∀ i, i < n → -9223372036854775808 ≤ c i ∧ c i ≤ 9223372036854775807 := by
  rcases open_ints ht he hc h with ⟨rfl, _⟩ | ⟨a, l, c, zs, rfl, _, hl, hm, hz, _, hcell, hwz⟩
  · exact ⟨_, 0, fun _ => 0, rfl, ⟨none, 0, rfl, Nat.le_refl _, fun _ => rfl, fun i hi => absurd hi (Nat.not_lt_zero _)⟩, fun i hi => absurd hi (Nat.not_lt_zero _)⟩
  · have hz' : zs.length = c := by simpa using hz
    refine ⟨_, l, fun i => zs.getD i 0, rfl, ⟨some a, c, rfl, hl, (fun e => nomatch e), fun i hi => ?_⟩, fun i hi => ?_⟩
    · have h0 := hcell 0 (by omega)
      obtain ⟨b, off, rfl⟩ := plain_of_cell h0
      have h1 := hcell i (by omega)
      rw [add_plain] at h1
      refine ⟨b, off, rfl, fun h => h.elim, World.block_lt_of_cell? w _ h1, fun q hq => ?_⟩
      obtain rfl : q = 0 := by omega
      exact ⟨_, by rw [Nat.mul_one, Nat.add_zero]; exact h1, rfl, rfl⟩
    · have hi' : i < zs.length := by omega
      show _ ≤ zs.getD i 0 ∧ zs.getD i 0 ≤ _
      rw [List.getD_eq_getElem?_getD, List.getElem?_eq_getElem hi']
      exact wf_int (hwz _ (List.getElem_mem hi'))
theorem slice_cells {a : Option Addr} {n c : Nat} : (Value.slice a n c).cells.toList = [.slice a n c] := by simp [Value.cells]
theorem am_polT {r : Reach} {b0 : Nat} {d : DataW H} {p : List MemPlace} {v : Value} {t e u : TypeId} {f0 f1 : Field} (ht : P.underlying t = some (.slice e)) (hs : P.underlying e = some (.struct #[f0, f1])) (hC : P.cellsOf e = 2)
    (ho : f0.offset = 0 ∧ f1.offset = 1 ∧ P.cellsOf f0.type = 1 ∧ P.cellsOf f1.type = 1)
    (h0 : P.underlying f0.type = some .bool) (h1 : P.underlying f1.type = some (.slice u)) (hu : P.underlying u = some (.int .u32)) (hc : P.cellsOf u = 1)
    (hv : Value.okWide P w r b0 t v) (h : DataW.Trod enc P w 0 (fun _ => true) true t v d p) : ∃ n f, LfR nb w (arow MX n f) v := by
  obtain ⟨a, len, cap, rfl⟩ := okWide_slice ht hv
  obtain ⟨fuel, hf⟩ := h
  rw [slice_cells] at hf
  obtain ⟨v', n, f, e1, h2⟩ := am_pol ht hs hC ho h0 h1 hu hc hf
  obtain rfl := (List.cons.inj e1).1
  exact ⟨n, f, h2⟩
theorem am_polsT {r : Reach} {b0 : Nat} {d : DataW H} {p : List MemPlace} {v : Value} {t s e u : TypeId} {f0 f1 : Field} (hts : P.underlying t = some (.slice s)) (hcs1 : P.cellsOf s = 1) (ht : P.underlying s = some (.slice e)) (hs : P.underlying e = some (.struct #[f0, f1])) (hC : P.cellsOf e = 2)
    (ho : f0.offset = 0 ∧ f1.offset = 1 ∧ P.cellsOf f0.type = 1 ∧ P.cellsOf f1.type = 1)
    (h0 : P.underlying f0.type = some .bool) (h1 : P.underlying f1.type = some (.slice u)) (hu : P.underlying u = some (.int .u32)) (hc : P.cellsOf u = 1)
    (hv : Value.okWide P w r b0 t v) (h : DataW.Trod enc P w 0 (fun _ => true) true t v d p) : ∃ n ns fs, LfR nb w (prows MX n ns fs) v := by
  obtain ⟨a, len, cap, rfl⟩ := okWide_slice hts hv
  obtain ⟨fuel, hf⟩ := h
  rw [slice_cells] at hf
  obtain ⟨v', n, ns, fs, e1, h2⟩ := am_pols hts hcs1 ht hs hC ho h0 h1 hu hc hf
  obtain rfl := (List.cons.inj e1).1
  exact ⟨n, ns, fs, h2⟩
theorem am_i64sT {r : Reach} {b0 : Nat} {d : DataW H} {p : List MemPlace} {v : Value} {t e : TypeId} (ht : P.underlying t = some (.slice e)) (he : P.underlying e = some (.int .i64)) (hc : P.cellsOf e = 1)
    (hv : Value.okWide P w r b0 t v) (h : DataW.Trod enc P w 0 (fun _ => true) true t v d p) : ∃ n c, LfR nb w (irow n c) v ∧ ∀ i, i < n → -9223372036854775808 ≤ c i ∧ c i ≤ 9223372036854775807 := by
  obtain ⟨a, len, cap, rfl⟩ := okWide_slice ht hv
  obtain ⟨fuel, hf⟩ := h
  rw [slice_cells] at hf
  obtain ⟨v', n, c, e1, h2⟩ := am_i64s ht he hc hf
  obtain rfl := (List.cons.inj e1).1
  exact ⟨n, c, h2⟩
end
end Go.Proofs.Ytoagihianelhjaa

/-
  WHAT COMES IN (2): rationals, rows of rationals. No condition; nothing of the program.
-/
set_option linter.unusedVariables false
set_option linter.unusedSimpArgs false
namespace Go.Proofs.Ytoagihianelhjaa
open Go.RowKit Go.ChangeShapes Go.WideShapes

section
variable {H : Type} {enc : TypeId × Value → H} {P : Program} {w : World}
theorem am_intc {t e : TypeId} {f0 f1 : Field} {fuel : Nat} {cs : List Value} {x : DataW H × List MemPlace} (hs : P.underlying t = some (.struct #[f0, f1])) (ho : f0.offset = 0 ∧ f1.offset = 1 ∧ P.cellsOf f0.type = 1 ∧ P.cellsOf f1.type = 1)
    (h0 : P.underlying f0.type = some .bool) (h1 : P.underlying f1.type = some (.slice e)) (he : P.underlying e = some (.int .u32)) (hc : P.cellsOf e = 1) (hl : cs.length = 2)
    (h : DataW.trod enc P w 0 (fun _ => true) true fuel t cs = some x) : ∃ s xs v1, cs = [.bool s, v1] ∧ LfR nb w (lr MX xs) v1 := by
  obtain ⟨y0, y1, q, _, _, t0, t1⟩ := trod_struct2 hs h
  obtain ⟨o0, o1, k0, k1⟩ := ho
  match cs, hl with
  | [c0, c1], _ =>
    rw [o0, k0] at t0
    rw [o1, k1] at t1
    obtain ⟨s, hb, _⟩ := DataW.trod_bool h0 t0
    obtain ⟨v1, xs, e1, hr⟩ := am_lim h1 he hc t1
    obtain rfl : c0 = .bool s := (List.cons.inj hb).1
    obtain rfl : c1 = v1 := (List.cons.inj e1).1
    exact ⟨s, xs, _, rfl, hr⟩
/-- A rational in any form. -/
def tan (K : Nat) (s : Bool) (xs : List Nat) (t : Bool) (ys : List Nat) : List Lf := [.v (.bool s), lr K xs] ++ [.v (.bool t), lr K ys]
theorem am_ratc {t u e : TypeId} {g0 g1 f0 f1 : Field} {fuel : Nat} {cs : List Value} {x : DataW H × List MemPlace} (hr : P.underlying t = some (.struct #[g0, g1])) (hg : g0.offset = 0 ∧ g1.offset = 2 ∧ P.cellsOf g0.type = 2 ∧ P.cellsOf g1.type = 2)
    (u0 : g0.type = u) (u1 : g1.type = u) (hs : P.underlying u = some (.struct #[f0, f1])) (ho : f0.offset = 0 ∧ f1.offset = 1 ∧ P.cellsOf f0.type = 1 ∧ P.cellsOf f1.type = 1)
    (h0 : P.underlying f0.type = some .bool) (h1 : P.underlying f1.type = some (.slice e)) (he : P.underlying e = some (.int .u32)) (hc : P.cellsOf e = 1) (hl : cs.length = 4)
    (h : DataW.trod enc P w 0 (fun _ => true) true fuel t cs = some x) : ∃ s xs s' ys, LsR nb w (tan MX s xs s' ys) cs := by
  obtain ⟨y0, y1, q, _, _, t0, t1⟩ := trod_struct2 hr h
  obtain ⟨o0, o1, k0, k1⟩ := hg
  match cs, hl with
  | [c0, c1, c2, c3], _ =>
    rw [o0, k0, u0] at t0
    rw [o1, k1, u1] at t1
    obtain ⟨s, xs, v1, e1, r1⟩ := am_intc hs ho h0 h1 he hc rfl t0
    obtain ⟨s', ys, v2, e2, r2⟩ := am_intc hs ho h0 h1 he hc rfl t1
    simp at e1 e2
    obtain ⟨rfl, rfl⟩ := e1
    obtain ⟨rfl, rfl⟩ := e2
    exact ⟨s, xs, s', ys, ⟨rfl, rfl⟩, r1, ⟨rfl, rfl⟩, r2, trivial⟩
theorem am_rat {r : Reach} {b0 : Nat} {t u e : TypeId} {g0 g1 f0 f1 : Field} {v : Value} {d : DataW H} {p : List MemPlace} (hr : P.underlying t = some (.struct #[g0, g1])) (hC : P.cellsOf t = 4) (hg : g0.offset = 0 ∧ g1.offset = 2 ∧ P.cellsOf g0.type = 2 ∧ P.cellsOf g1.type = 2)
    (u0 : g0.type = u) (u1 : g1.type = u) (hs : P.underlying u = some (.struct #[f0, f1])) (ho : f0.offset = 0 ∧ f1.offset = 1 ∧ P.cellsOf f0.type = 1 ∧ P.cellsOf f1.type = 1)
    (h0 : P.underlying f0.type = some .bool) (h1 : P.underlying f1.type = some (.slice e)) (he : P.underlying e = some (.int .u32)) (hc : P.cellsOf e = 1)
    (hv : Value.okWide P w r b0 t v) (h : DataW.Trod enc P w 0 (fun _ => true) true t v d p) : ∃ s xs s' ys, DR nb w (.agg (tan MX s xs s' ys)) v := by
  obtain ⟨cs, rfl, hsz⟩ := okWide_struct hr hv
  obtain ⟨fuel, hf⟩ := h
  have hcs : (Value.agg cs).cells.toList = cs.toList := by simp [Value.cells]
  rw [hcs] at hf
  obtain ⟨s, xs, s', ys, hx⟩ := am_ratc hr hg u0 u1 hs ho h0 h1 he hc (by simpa using hsz.trans hC) hf
  exact ⟨s, xs, s', ys, cs.toList, by simp, hx⟩
/-- A row of rationals in any form. -/
abbrev tael (K : Nat) (f : Nat → (Bool × List Nat) × (Bool × List Nat)) : Nat → Nat → Lf := fun i j => ((tan K (f i).1.1 (f i).1.2 (f i).2.1 (f i).2.2)[j]?).getD (.v undef)
def trow (K n : Nat) (f : Nat → (Bool × List Nat) × (Bool × List Nat)) : Lf := .row 4 n (tael K f)
theorem am_rats {tt t u e : TypeId} {g0 g1 f0 f1 : Field} {fuel : Nat} {cs : List Value} {x : DataW H × List MemPlace} (ht : P.underlying tt = some (.slice t)) (hr : P.underlying t = some (.struct #[g0, g1])) (hC : P.cellsOf t = 4) (hg : g0.offset = 0 ∧ g1.offset = 2 ∧ P.cellsOf g0.type = 2 ∧ P.cellsOf g1.type = 2)
    (u0 : g0.type = u) (u1 : g1.type = u) (hs : P.underlying u = some (.struct #[f0, f1])) (ho : f0.offset = 0 ∧ f1.offset = 1 ∧ P.cellsOf f0.type = 1 ∧ P.cellsOf f1.type = 1)
    (h0 : P.underlying f0.type = some .bool) (h1 : P.underlying f1.type = some (.slice e)) (he : P.underlying e = some (.int .u32)) (hc : P.cellsOf e = 1)
    (h : DataW.trod enc P w 0 (fun _ => true) true fuel tt cs = some x) : ∃ v n f, cs = [v] ∧ LfR nb w (trow MX n f) v := by
  rcases Go.Deep.open_slice ht h with ⟨hcs, _⟩ | ⟨a, len, cap, m, n, D, Pl, hcs, _, hl, hm, hmm, _, hx⟩
  · exact ⟨_, 0, fun _ => ((false, []), (false, [])), hcs, none, 0, rfl, Nat.le_refl _, fun _ => rfl, fun i hi => absurd hi (Nat.not_lt_zero _)⟩
  · have hm2 : m = cap := by simpa using hmm
    have key : ∀ j, j < len → ∃ F : (Bool × List Nat) × (Bool × List Nat), ∃ b off, a = ⟨b, off, none⟩ ∧ b < w.heap.size ∧ ∀ q, q < 4 → ∃ c, w.cell? ⟨b, off + j * 4 + q, none⟩ = some c ∧ LfR nb w (((tan MX F.1.1 F.1.2 F.2.1 F.2.2)[q]?).getD (.v undef)) c := by
      intro j hj
      have hfirst : ∃ v0, w.cell? (a.add 0) = some v0 := by
        obtain ⟨cs, h2, _⟩ := hx 0 (by omega)
        rw [hC] at h2
        obtain ⟨_, hlen, hcell⟩ := World.cells?_some h2
        have h3 := hcell 0 (by omega)
        rw [Nat.zero_mul, show (a.add 0).add 0 = a.add 0 by simp [Addr.add]] at h3
        exact ⟨_, h3.trans (List.getElem?_eq_getElem (by omega))⟩
      obtain ⟨v0, hv0⟩ := hfirst
      obtain ⟨b, off, rfl⟩ := plain_of_cell hv0
      obtain ⟨cs, h2, h3⟩ := hx j (by omega)
      rw [hC] at h2
      obtain ⟨_, hlen, hcell⟩ := World.cells?_some h2
      obtain ⟨s, xs, s', ys, hls⟩ := am_ratc hr hg u0 u1 hs ho h0 h1 he hc hlen h3
      have hlt : b < w.heap.size := by
        have h4 := hcell 0 (by omega)
        rw [add_plain, add_plain] at h4
        exact World.block_lt_of_cell? w _ (h4.trans (List.getElem?_eq_getElem (by omega)))
      refine ⟨((s, xs), (s', ys)), b, off, rfl, hlt, fun q hq => ?_⟩
      have h4 := hcell q (by omega)
      rw [add_plain, add_plain] at h4
      obtain ⟨c, hc1, hc2⟩ := hls.get (j := q) (l := ((tan MX s xs s' ys)[q]?).getD (.v undef)) (by
        have hlen4 : (tan MX s xs s' ys).length = 4 := rfl
        rw [List.getElem?_eq_getElem (by omega)]; rfl)
      exact ⟨c, h4.trans hc1, hc2⟩
    refine ⟨_, len, fun j => if h : j < len then (key j h).choose else ((false, []), (false, [])), hcs, some a, cap, rfl, hl, (fun e => nomatch e), fun j hj => ?_⟩
    obtain ⟨b, off, rfl, h2, h3⟩ := (key j hj).choose_spec
    refine ⟨b, off, rfl, fun h => h.elim, h2, fun q hq => ?_⟩
    obtain ⟨c, h4, h5⟩ := h3 q hq
    refine ⟨c, h4, ?_⟩
    simp only [tael, dif_pos hj]
    exact h5
theorem am_ratsT {r : Reach} {b0 : Nat} {d : DataW H} {p : List MemPlace} {v : Value} {tt t u e : TypeId} {g0 g1 f0 f1 : Field} (ht : P.underlying tt = some (.slice t)) (hr : P.underlying t = some (.struct #[g0, g1])) (hC : P.cellsOf t = 4) (hg : g0.offset = 0 ∧ g1.offset = 2 ∧ P.cellsOf g0.type = 2 ∧ P.cellsOf g1.type = 2)
    (u0 : g0.type = u) (u1 : g1.type = u) (hs : P.underlying u = some (.struct #[f0, f1])) (ho : f0.offset = 0 ∧ f1.offset = 1 ∧ P.cellsOf f0.type = 1 ∧ P.cellsOf f1.type = 1)
    (h0 : P.underlying f0.type = some .bool) (h1 : P.underlying f1.type = some (.slice e)) (he : P.underlying e = some (.int .u32)) (hc : P.cellsOf e = 1)
    (hv : Value.okWide P w r b0 tt v) (h : DataW.Trod enc P w 0 (fun _ => true) true tt v d p) : ∃ n f, LfR nb w (trow MX n f) v := by
  obtain ⟨a, len, cap, rfl⟩ := okWide_slice ht hv
  obtain ⟨fuel, hf⟩ := h
  rw [slice_cells] at hf
  obtain ⟨v', n, f, e1, h2⟩ := am_rats ht hr hC hg u0 u1 hs ho h0 h1 he hc hf
  obtain rfl := (List.cons.inj e1).1
  exact ⟨n, f, h2⟩
end
end Go.Proofs.Ytoagihianelhjaa

/-
  RATIONALS, cut, by the machine.
-/
set_option linter.unusedVariables false
set_option linter.unusedSimpArgs false
namespace Go.Proofs.Ytoagihianelhjaa
open Go.RowKit

set_option maxRecDepth 100000 in
set_option maxHeartbeats 4000000 in
theorem aKRat {K k : Nat} {s t : Bool} {xs ys : List Nat} (hk : k ≤ 1000000 := by decide) (hK : K ≤ 9223372036854775807 := by decide) : ACall Try.prog 19 [.agg ([.v (.bool s), lr K xs] ++ [.v (.bool t), lr K ys]), .one (.v (.int .i64 (k : Int)))] (.d (.agg ([.v (.bool s), lr k (xs.take k)] ++ [.v (.bool t), lr k (ys.take k)]))) := by
  refine acallN hTT 14 [.cell 4 46] Try.func19 rfl rfl rfl rfl rfl ?_
  refine cSeq ?_
  refine cReg ?_
  refine mN hTT (.box 46 ([.v (.bool s), lr K xs] ++ [.v (.bool t), lr K ys])) rfl rfl rfl ?_
  refine mN hTT (.box 46 ([.v (.bool false), .v (.slice none 0 0), .v (.bool false), .v (.slice none 0 0)])) rfl rfl rfl ?_
  refine mNil ?_
  refine tN ?_
  refine cSeq ?_
  refine cDrawK hTT 9 (by kernel_rfl) (by kernel_rfl) (by kernel_rfl) ?_
  refine .cons (OpS.V (.ptr 2 0) rfl) ?_
  refine .cons (OpS.V (.d (.agg ([.v (.bool s), lr K xs]))) rfl) ?_
  refine .cons (OpS.V _ rfl) ?_
  refine .cons (OpS.C0 (aKInt (K := K) (k := k) (s := s) (xs := xs) (by omega) (by omega)) rfl rfl rfl) ?_
  refine .cons (OpS.V (.ptr 2 2) rfl) ?_
  refine .cons (OpS.V (.d (.agg ([.v (.bool t), lr K ys]))) rfl) ?_
  refine .cons (OpS.V _ rfl) ?_
  refine .cons (OpS.C0 (aKInt (K := K) (k := k) (s := t) (xs := ys) (by omega) (by omega)) rfl rfl rfl) ?_
  refine .cons (OpS.V (.d (.agg ([.v (.bool s), lr k (xs.take k)] ++ [.v (.bool t), lr k (ys.take k)]))) rfl) ?_
  refine .nil ?_
  refine mS hTT 4 (.box 46 ([.v (.bool s), lr k (xs.take k)] ++ [.v (.bool t), lr k (ys.take k)])) rfl ?_
  refine mNil ?_
  refine tN ?_
  refine cRet ?_
  exact rQ rfl (AV.le.rfl)

end Go.Proofs.Ytoagihianelhjaa

/-
  RATIONALS of the program, by the machine (3).
-/
set_option linter.unusedVariables false
set_option linter.unusedSimpArgs false
namespace Go.Proofs.Ytoagihianelhjaa
open Go.RowKit

def fq (f : Nat → (Bool × List Nat) × (Bool × List Nat)) (i : Nat) : Rat := mkR (zv (f i).1.1 (val (f i).1.2)) (zv (f i).2.1 (val (f i).2.2))
theorem aSameX {K L : Nat} {xs : List Nat} (hK : K ≤ 1000000000 := by decide) (hL : L ≤ 1000000000 := by decide) : ACall Try.prog 40 [.one (lr K xs), .one (lr L xs)] (.d (.one (.v (.bool true)))) := ACall.le (dl DV.same (dl DV.same dl0)) (le_bool (decide_eq_true rfl)) (aSame (by omega) (by omega))
set_option maxRecDepth 100000 in
set_option maxHeartbeats 4000000 in
theorem aSameInt {K L : Nat} {s : Bool} {xs : List Nat} (hK : K ≤ 1000000000 := by decide) (hL : L ≤ 1000000000 := by decide) : ACall Try.prog 18 [.agg [.v (.bool s), lr K xs], .agg [.v (.bool s), lr L xs]] (.d (.one (.v (.bool true)))) := by
  refine acallN hTT 17 [.tmp 4] Try.func18 rfl rfl rfl rfl rfl ?_
  refine cSeq ?_
  refine cReg ?_
  refine mN hTT (.box 24 ([.v (.bool s), lr K xs])) rfl rfl rfl ?_
  refine mN hTT (.box 24 ([.v (.bool s), lr L xs])) rfl rfl rfl ?_
  refine mV hTT _ rfl ?_
  refine mNil ?_
  refine tN ?_
  refine cSeq ?_
  refine cReg ?_
  refine mV hTT (.ptr 2 0) rfl ?_
  refine mV hTT (.d (.one (.v (.bool s)))) rfl ?_
  refine mV hTT (.ptr 3 0) rfl ?_
  refine mV hTT (.d (.one (.v (.bool s)))) rfl ?_
  refine mV hTT (.d (.one (.v (.bool true)))) (evb (beq_self_eq_true _)) ?_
  refine mV hTT _ rfl ?_
  refine mV hTT (.ptr 2 1) rfl ?_
  refine mV hTT (.d (.one (lr K xs))) rfl ?_
  refine mV hTT (.ptr 3 1) rfl ?_
  refine mV hTT (.d (.one (lr L xs))) rfl ?_
  refine mC0 (aSameX (K := K) (L := L) (xs := xs) (by omega) (by omega)) rfl rfl rfl ?_
  refine mV hTT _ rfl ?_
  refine mV hTT _ rfl ?_
  refine mNil ?_
  refine tN ?_
  refine cRet ?_
  exact rQ rfl (AV.le.rfl)

theorem aSameZ {K L : Nat} {x y : Int} (h : x = y) (hK : K ≤ 1000000000 := by decide) (hL : L ≤ 1000000000 := by decide) : ACall Try.prog 18 [.agg (zn K x), .agg (zn L y)] (.d (.one (.v (.bool true)))) := by subst h; exact aSameInt hK hL
end Go.Proofs.Ytoagihianelhjaa

