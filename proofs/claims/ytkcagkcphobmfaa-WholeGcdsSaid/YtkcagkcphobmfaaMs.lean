/-
  WHOLE NUMBERS: Zero, Sign, Of, DivMod, Exact, Gcd; the plain reckoning: Of, Quo, Gcd, Same.
-/
import Derived.Test.YtkcagkcphobmfaaMr
import Derived.Test.YtkcagkcphobmfaaMp
set_option linter.unusedVariables false
set_option linter.unusedSimpArgs false
namespace Go.Proofs.Ytkcagkcphobmfaa
open Go.RowKit

set_option maxRecDepth 100000 in
set_option maxHeartbeats 4000000 in
theorem aZero {a : List Lf} {K : Nat} {z : Int} (ha : IsN a K z) : ACall Try.prog 17 [.agg a] (.d (.one (.v (.bool (decide (z = 0)))))) := by
  refine ACall.le (dl (DV.g ha) dl0) AV.le.rfl ?_
  refine acallN hTT 7 [.tmp 2] Try.func17 rfl rfl rfl rfl rfl ?_
  refine cSeq ?_
  refine cReg ?_
  refine mN hTT (.box 24 (zn K z)) rfl rfl rfl ?_
  refine mV hTT _ rfl ?_
  refine mNil ?_
  refine tN ?_
  refine cSeq ?_
  refine cReg ?_
  refine mV hTT (.ptr 1 1) rfl ?_
  refine mV hTT (.d (.one (ln K z.natAbs))) rfl ?_
  refine mV hTT (.d (.one (.v (.int .i64 ((limbs z.natAbs).length : Int))))) rfl ?_
  refine mV hTT (.d (.one (.v (.bool (((limbs z.natAbs).length : Int) == 0))))) rfl ?_
  refine mV hTT _ rfl ?_
  refine mNil ?_
  refine tN ?_
  refine cRet ?_
  exact rQ rfl (le_bool (by have h0 := limbs_len z.natAbs; rw [Bool.eq_iff_iff, beq_iff_eq, decide_eq_true_eq]; omega))

set_option maxRecDepth 100000 in
set_option maxHeartbeats 4000000 in
theorem aSign {a : List Lf} {K : Nat} {z : Int} (ha : IsN a K z) : ACall Try.prog 51 [.agg a] (.d (.one (.v (.int .i64 (sgn z))))) := by
  refine ACall.le (dl (DV.g ha) dl0) AV.le.rfl ?_
  refine acallN hTT 11 [.tmp 2] Try.func51 rfl rfl rfl rfl rfl ?_
  refine cSeq ?_
  refine cReg ?_
  refine mN hTT (.box 24 (zn K z)) rfl rfl rfl ?_
  refine mV hTT _ rfl ?_
  refine mNil ?_
  refine tN ?_
  refine cSeq ?_
  refine cBlock ?_
  refine cSeq ?_
  refine cReg ?_
  refine mV hTT (.ptr 1 1) rfl ?_
  refine mV hTT (.d (.one (ln K z.natAbs))) rfl ?_
  refine mV hTT (.d (.one (.v (.int .i64 ((limbs z.natAbs).length : Int))))) rfl ?_
  refine mV hTT (.d (.one (.v (.bool (((limbs z.natAbs).length : Int) == 0))))) rfl ?_
  refine mV hTT _ rfl ?_
  refine mNil ?_
  refine tN ?_
  refine cCond rfl (fun hc1 => ?_) (fun hc1 => ?_)
  · skip
    refine cSeq ?_
    refine cReg ?_
    refine mV hTT _ rfl ?_
    refine mNil ?_
    refine tN ?_
    refine cRet ?_
    refine bR ?_
    refine tR ?_
    exact rQ rfl (le_int (by have h0 := limbs_len z.natAbs; simp only [beq_iff_eq, beq_eq_false_iff_ne, ne_eq, bne_iff_ne, bne_eq_false_iff_eq, decide_eq_true_eq, decide_eq_false_iff_not] at hc1; unfold sgn; (repeat' split) <;> omega))
  · skip
    refine cSeq ?_
    refine cReg ?_
    refine mV hTT (.ptr 1 0) rfl ?_
    refine mV hTT (.d (.one (.v (.bool (decide (z < 0)))))) rfl ?_
    refine mV hTT _ rfl ?_
    refine mNil ?_
    refine tN ?_
    refine cCond rfl (fun hc2 => ?_) (fun hc2 => ?_)
    · skip
      refine cSeq ?_
      refine cReg ?_
      refine mV hTT _ rfl ?_
      refine mNil ?_
      refine tN ?_
      refine cRet ?_
      refine bR ?_
      refine tR ?_
      exact rQ rfl (le_int (by have h0 := limbs_len z.natAbs; simp only [beq_iff_eq, beq_eq_false_iff_ne, ne_eq, bne_iff_ne, bne_eq_false_iff_eq, decide_eq_true_eq, decide_eq_false_iff_not] at hc1 hc2; unfold sgn; (repeat' split) <;> omega))
    · skip
      refine cSkip ?_
      refine bN ?_
      refine tN ?_
      refine cSeq ?_
      refine cReg ?_
      refine mV hTT _ rfl ?_
      refine mNil ?_
      refine tN ?_
      refine cRet ?_
      exact rQ rfl (le_int (by have h0 := limbs_len z.natAbs; simp only [beq_iff_eq, beq_eq_false_iff_ne, ne_eq, bne_iff_ne, bne_eq_false_iff_eq, decide_eq_true_eq, decide_eq_false_iff_not] at hc1 hc2; unfold sgn; (repeat' split) <;> omega))

set_option maxRecDepth 100000 in
set_option maxHeartbeats 4000000 in
theorem aOf {n : Int} (h1 : -9223372036854775808 ≤ n := by decide) (h2 : n ≤ 9223372036854775807 := by decide) : ACall Try.prog 47 [.one (.v (.int .i64 n))] (.d (.agg (zn 2 n))) := by
  refine acallN hTT 20 [.cell 2 24] Try.func47 rfl rfl rfl rfl rfl ?_
  refine cSeq ?_
  refine cReg ?_
  refine mN hTT (.box 24 ([.v (.bool false), .v (.slice none 0 0)])) rfl rfl rfl ?_
  refine mNil ?_
  refine tN ?_
  refine cSeq ?_
  refine cReg ?_
  refine mV hTT _ rfl ?_
  refine mV hTT (.d (.one (.v (.int .u64 (IntKind.u64.wrap n))))) rfl ?_
  refine mV hTT _ rfl ?_
  refine mNil ?_
  refine tN ?_
  refine cSeq ?_
  refine cSeq ?_
  refine cReg ?_
  refine mV hTT _ rfl ?_
  refine mV hTT (.d (.one (.v (.bool (decide (n < 0)))))) rfl ?_
  refine mNil ?_
  refine tN ?_
  refine cCond rfl (fun hc1 => ?_) (fun hc1 => ?_)
  · skip
    refine cReg ?_
    refine mV hTT _ rfl ?_
    refine mV hTT (.d (.one (.v (.int .u64 ((n.natAbs : Nat) : Int))))) (evi (neg_wrap2 n (of_decide_eq_true hc1) h1)) ?_
    refine mV hTT _ rfl ?_
    refine mNil ?_
    refine tN ?_
    refine cSeq ?_
    refine cReg ?_
    refine mV hTT _ rfl ?_
    refine mV hTT (.d (.one (.v (.int .u32 ((n.natAbs % 4294967296 : Nat) : Int))))) (evi (by rw [wrap_u32]; omega)) ?_
    refine mV hTT _ rfl ?_
    refine mV hTT (.d (.one (.v (.int .u64 ((n.natAbs / 4294967296 : Nat) : Int))))) (evi (shr32 _)) ?_
    refine mV hTT (.d (.one (.v (.int .u32 ((n.natAbs / 4294967296 : Nat) : Int))))) (evi (by rw [wrap_u32]; omega)) ?_
    refine mB hTT (.d (.one (.row 1 2 (fun i' j' => (([.v (.int .u32 ((n.natAbs % 4294967296 : Nat) : Int)), .v (.int .u32 ((n.natAbs / 4294967296 : Nat) : Int))])[i' * 1 + j']?).getD (.v undef))))) rfl ?_
    refine mC0 (aLNorm (of_row (m := n.natAbs) (by omega)) (by decide)) rfl rfl rfl ?_
    refine mV hTT _ rfl ?_
    refine mV hTT (.d (.one (.v (.bool (decide (n < 0)))))) rfl ?_
    refine mC0 (aMade (K := 2) (m := n.natAbs) (neg := decide (n < 0)) rfl) rfl rfl rfl ?_
    refine mS hTT 2 (.box 24 (zn 2 (zv (decide (n < 0)) n.natAbs))) rfl ?_
    refine mNil ?_
    refine tN ?_
    refine cRet ?_
    exact rQ rfl (le_zn (Nat.le_refl _) (zv_natAbs n))
  · skip
    refine cSkip ?_
    refine tN ?_
    refine cSeq ?_
    refine cView 3 (.d (.one (.v (.int .u64 ((n.natAbs : Nat) : Int))))) rfl (le_int (pos_wrap2 n (of_decide_eq_false hc1) h2)) ?_
    refine cReg ?_
    refine mV hTT _ rfl ?_
    refine mV hTT (.d (.one (.v (.int .u32 ((n.natAbs % 4294967296 : Nat) : Int))))) (evi (by rw [wrap_u32]; omega)) ?_
    refine mV hTT _ rfl ?_
    refine mV hTT (.d (.one (.v (.int .u64 ((n.natAbs / 4294967296 : Nat) : Int))))) (evi (shr32 _)) ?_
    refine mV hTT (.d (.one (.v (.int .u32 ((n.natAbs / 4294967296 : Nat) : Int))))) (evi (by rw [wrap_u32]; omega)) ?_
    refine mB hTT (.d (.one (.row 1 2 (fun i' j' => (([.v (.int .u32 ((n.natAbs % 4294967296 : Nat) : Int)), .v (.int .u32 ((n.natAbs / 4294967296 : Nat) : Int))])[i' * 1 + j']?).getD (.v undef))))) rfl ?_
    refine mC0 (aLNorm (of_row (m := n.natAbs) (by omega)) (by decide)) rfl rfl rfl ?_
    refine mV hTT _ rfl ?_
    refine mV hTT (.d (.one (.v (.bool (decide (n < 0)))))) rfl ?_
    refine mC0 (aMade (K := 2) (m := n.natAbs) (neg := decide (n < 0)) rfl) rfl rfl rfl ?_
    refine mS hTT 2 (.box 24 (zn 2 (zv (decide (n < 0)) n.natAbs))) rfl ?_
    refine mNil ?_
    refine tN ?_
    refine cRet ?_
    exact rQ rfl (le_zn (Nat.le_refl _) (zv_natAbs n))

set_option maxRecDepth 100000 in
set_option maxHeartbeats 4000000 in
theorem aDivMod {a b : List Lf} {K L M : Nat} {x y : Int} (ha : IsZ a K x) (hb : IsZ b L y) (hy : y ≠ 0) (hM : max K 1 + 1 ≤ M := by decide) (hK : K ≤ 1073741823 := by decide) (hL : L ≤ 1073741823 := by decide) : ACall Try.prog 15 [.agg a, .agg b] (.tup [.agg (zn M (x / y)), .agg (zn L (x % y)), .one (.v (.int .i64 0))]) := by
  obtain ⟨s, xs, ha, rfl⟩ := ha
  obtain ⟨t, ys, hb, rfl⟩ := hb
  refine ACall.le (dl (DV.z ha) (dl (DV.z hb) dl0)) AV.le.rfl ?_
  have hn : val ys ≠ 0 := fun e => hy (by rw [e]; cases t <;> rfl)
  cases s
  · skip
    refine acallN hTT 60 [.cell 4 24, .cell 5 24, .tmp 6] Try.func15 rfl rfl rfl rfl rfl ?_
    refine cSeq ?_
    refine cReg ?_
    refine mN hTT (.box 24 ([.v (.bool false), lr K xs])) rfl rfl rfl ?_
    refine mN hTT (.box 24 ([.v (.bool t), lr L ys])) rfl rfl rfl ?_
    refine mN hTT (.box 24 ([.v (.bool false), .v (.slice none 0 0)])) rfl rfl rfl ?_
    refine mN hTT (.box 24 ([.v (.bool false), .v (.slice none 0 0)])) rfl rfl rfl ?_
    refine mV hTT _ rfl ?_
    refine mNil ?_
    refine tN ?_
    refine cSeq ?_
    refine cReg ?_
    refine mV hTT (.ptr 2 1) rfl ?_
    refine mV hTT (.d (.one (lr K xs))) rfl ?_
    refine mV hTT (.ptr 3 1) rfl ?_
    refine mV hTT (.d (.one (lr L ys))) rfl ?_
    refine mC0 (aLDiv (islv K xs) (islv L ys) (by omega) (by omega)) rfl rfl rfl ?_
    refine mV hTT _ rfl ?_
    refine mV hTT _ rfl ?_
    refine mV hTT _ rfl ?_
    refine mV hTT _ rfl ?_
    refine mV hTT _ rfl ?_
    refine mV hTT _ rfl ?_
    refine mV hTT _ rfl ?_
    refine mNil ?_
    refine tN ?_
    refine cSeq ?_
    refine cSeq ?_
    refine cReg ?_
    refine mV hTT _ rfl ?_
    refine mV hTT (.d (.one (.v (.bool false)))) (evb (by rw [show divErr (val ys) = 0 from if_neg hn]; rfl)) ?_
    refine mNil ?_
    refine tN ?_
    refine cF rfl ?_
    refine cSkip ?_
    refine tN ?_
    refine cSeq ?_
    refine cReg ?_
    refine mV hTT _ rfl ?_
    refine mV hTT (.ptr 2 0) rfl ?_
    refine mV hTT (.d (.one (.v (.bool false)))) rfl ?_
    refine mV hTT (.ptr 3 0) rfl ?_
    refine mV hTT (.d (.one (.v (.bool t)))) rfl ?_
    refine mV hTT (.d (.one (.v (.bool (!(false == t)))))) rfl ?_
    refine mC0 (aMade (K := K) (m := ((val xs) / (val ys))) (neg := !(false == t)) rfl) rfl rfl rfl ?_
    refine mV hTT _ rfl ?_
    refine mC0 (aMade (K := L) (m := (modZ (val xs) (val ys))) (neg := false) rfl) rfl rfl rfl ?_
    refine mS hTT 4 (.box 24 (zn K (zv (!(false == t)) ((val xs) / (val ys))))) rfl ?_
    refine mS hTT 5 (.box 24 (zn L (zv false (modZ (val xs) (val ys))))) rfl ?_
    refine mNil ?_
    refine tN ?_
    refine cSeq ?_
    refine cSeq ?_
    refine cReg ?_
    refine mV hTT (.ptr 2 0) rfl ?_
    refine mV hTT (.d (.one (.v (.bool false)))) rfl ?_
    refine mV hTT _ rfl ?_
    refine mG rfl rfl ?_
    refine mG rfl rfl ?_
    refine mG rfl rfl ?_
    refine mV hTT _ rfl ?_
    refine mNil ?_
    refine tN ?_
    refine cF rfl ?_
    refine cSkip ?_
    refine tN ?_
    refine cSeq ?_
    refine cAny (by kernel_rfl) ?_
    refine anyS [0, 1] (by kernel_rfl) rfl ?_
    refine ⟨⟨_, rfl, ?_⟩, ⟨_, rfl, ?_⟩, trivial⟩
    · skip
      refine mV hTT (.d (.agg (zn K (zv (!(false == t)) ((val xs) / (val ys)))))) rfl ?_
      refine mNil ?_
      refine tN ?_
      refine anyS [1, 2] (by kernel_rfl) rfl ?_
      refine ⟨⟨_, rfl, ?_⟩, ⟨_, rfl, ?_⟩, trivial⟩
      · skip
        refine mV hTT (.d (.agg (zn L (zv false (modZ (val xs) (val ys)))))) rfl ?_
        refine mNil ?_
        refine tN ?_
        refine anyS [2] (by kernel_rfl) rfl ?_
        refine ⟨⟨_, rfl, ?_⟩, trivial⟩
        refine mS hTT 4 (.box 24 (zn K (zv (!(false == t)) ((val xs) / (val ys))))) rfl ?_
        refine mNil ?_
        refine tN ?_
        refine anyS [3] (by kernel_rfl) rfl ?_
        refine ⟨⟨_, rfl, ?_⟩, trivial⟩
        refine mS hTT 5 (.box 24 (zn L (zv false (modZ (val xs) (val ys))))) rfl ?_
        refine mNil ?_
        refine tN ?_
        refine anyS [4] (by kernel_rfl) rfl ?_
        refine ⟨⟨_, rfl, ?_⟩, trivial⟩
        refine mV hTT _ rfl ?_
        refine mNil ?_
        refine tN ?_
        refine anyN (by kernel_rfl) ?_
        refine tN ?_
        refine cRet ?_
        obtain ⟨e1, e2⟩ := dm1 t (val xs) (val ys) hn
        exact rQ rfl (le_tup (dl (dle (le_zn (by omega) e1)) (dl (dle (le_zn (Nat.le_refl _) e2)) (dl DV.same dl0))))
      · skip
        refine mS hTT 4 (.box 24 (zn K (zv (!(false == t)) ((val xs) / (val ys))))) rfl ?_
        refine mNil ?_
        refine tN ?_
        refine anyS [1] (by kernel_rfl) rfl ?_
        refine ⟨⟨_, rfl, ?_⟩, trivial⟩
        refine mV hTT (.d (.agg (zn L (zv false (modZ (val xs) (val ys)))))) rfl ?_
        refine mNil ?_
        refine tN ?_
        refine anyS [3] (by kernel_rfl) rfl ?_
        refine ⟨⟨_, rfl, ?_⟩, trivial⟩
        refine mS hTT 5 (.box 24 (zn L (zv false (modZ (val xs) (val ys))))) rfl ?_
        refine mNil ?_
        refine tN ?_
        refine anyS [4] (by kernel_rfl) rfl ?_
        refine ⟨⟨_, rfl, ?_⟩, trivial⟩
        refine mV hTT _ rfl ?_
        refine mNil ?_
        refine tN ?_
        refine anyN (by kernel_rfl) ?_
        refine tN ?_
        refine cRet ?_
        obtain ⟨e1, e2⟩ := dm1 t (val xs) (val ys) hn
        exact rQ rfl (le_tup (dl (dle (le_zn (by omega) e1)) (dl (dle (le_zn (Nat.le_refl _) e2)) (dl DV.same dl0))))
    · skip
      refine mV hTT (.d (.agg (zn L (zv false (modZ (val xs) (val ys)))))) rfl ?_
      refine mNil ?_
      refine tN ?_
      refine anyS [0] (by kernel_rfl) rfl ?_
      refine ⟨⟨_, rfl, ?_⟩, trivial⟩
      refine mV hTT (.d (.agg (zn K (zv (!(false == t)) ((val xs) / (val ys)))))) rfl ?_
      refine mNil ?_
      refine tN ?_
      refine anyS [2] (by kernel_rfl) rfl ?_
      refine ⟨⟨_, rfl, ?_⟩, trivial⟩
      refine mS hTT 4 (.box 24 (zn K (zv (!(false == t)) ((val xs) / (val ys))))) rfl ?_
      refine mNil ?_
      refine tN ?_
      refine anyS [3] (by kernel_rfl) rfl ?_
      refine ⟨⟨_, rfl, ?_⟩, trivial⟩
      refine mS hTT 5 (.box 24 (zn L (zv false (modZ (val xs) (val ys))))) rfl ?_
      refine mNil ?_
      refine tN ?_
      refine anyS [4] (by kernel_rfl) rfl ?_
      refine ⟨⟨_, rfl, ?_⟩, trivial⟩
      refine mV hTT _ rfl ?_
      refine mNil ?_
      refine tN ?_
      refine anyN (by kernel_rfl) ?_
      refine tN ?_
      refine cRet ?_
      obtain ⟨e1, e2⟩ := dm1 t (val xs) (val ys) hn
      exact rQ rfl (le_tup (dl (dle (le_zn (by omega) e1)) (dl (dle (le_zn (Nat.le_refl _) e2)) (dl DV.same dl0))))
  · skip
    refine acallN hTT 60 [.cell 4 24, .cell 5 24, .tmp 6] Try.func15 rfl rfl rfl rfl rfl ?_
    refine cSeq ?_
    refine cReg ?_
    refine mN hTT (.box 24 ([.v (.bool true), lr K xs])) rfl rfl rfl ?_
    refine mN hTT (.box 24 ([.v (.bool t), lr L ys])) rfl rfl rfl ?_
    refine mN hTT (.box 24 ([.v (.bool false), .v (.slice none 0 0)])) rfl rfl rfl ?_
    refine mN hTT (.box 24 ([.v (.bool false), .v (.slice none 0 0)])) rfl rfl rfl ?_
    refine mV hTT _ rfl ?_
    refine mNil ?_
    refine tN ?_
    refine cSeq ?_
    refine cReg ?_
    refine mV hTT (.ptr 2 1) rfl ?_
    refine mV hTT (.d (.one (lr K xs))) rfl ?_
    refine mV hTT (.ptr 3 1) rfl ?_
    refine mV hTT (.d (.one (lr L ys))) rfl ?_
    refine mC0 (aLDiv (islv K xs) (islv L ys) (by omega) (by omega)) rfl rfl rfl ?_
    refine mV hTT _ rfl ?_
    refine mV hTT _ rfl ?_
    refine mV hTT _ rfl ?_
    refine mV hTT _ rfl ?_
    refine mV hTT _ rfl ?_
    refine mV hTT _ rfl ?_
    refine mV hTT _ rfl ?_
    refine mNil ?_
    refine tN ?_
    refine cSeq ?_
    refine cSeq ?_
    refine cReg ?_
    refine mV hTT _ rfl ?_
    refine mV hTT (.d (.one (.v (.bool false)))) (evb (by rw [show divErr (val ys) = 0 from if_neg hn]; rfl)) ?_
    refine mNil ?_
    refine tN ?_
    refine cF rfl ?_
    refine cSkip ?_
    refine tN ?_
    refine cSeq ?_
    refine cReg ?_
    refine mV hTT _ rfl ?_
    refine mV hTT (.ptr 2 0) rfl ?_
    refine mV hTT (.d (.one (.v (.bool true)))) rfl ?_
    refine mV hTT (.ptr 3 0) rfl ?_
    refine mV hTT (.d (.one (.v (.bool t)))) rfl ?_
    refine mV hTT (.d (.one (.v (.bool (!(true == t)))))) rfl ?_
    refine mC0 (aMade (K := K) (m := ((val xs) / (val ys))) (neg := !(true == t)) rfl) rfl rfl rfl ?_
    refine mV hTT _ rfl ?_
    refine mC0 (aMade (K := L) (m := (modZ (val xs) (val ys))) (neg := false) rfl) rfl rfl rfl ?_
    refine mS hTT 4 (.box 24 (zn K (zv (!(true == t)) ((val xs) / (val ys))))) rfl ?_
    refine mS hTT 5 (.box 24 (zn L (zv false (modZ (val xs) (val ys))))) rfl ?_
    refine mNil ?_
    refine tN ?_
    refine cSeq ?_
    refine cSeq ?_
    refine cReg ?_
    refine mV hTT (.ptr 2 0) rfl ?_
    refine mV hTT (.d (.one (.v (.bool true)))) rfl ?_
    refine mV hTT _ rfl ?_
    refine mV hTT _ rfl ?_
    refine mV hTT (.d (.one (.v (.int .i64 ((limbs (modZ (val xs) (val ys))).length : Int))))) rfl ?_
    refine mV hTT (.d (.one (.v (.bool (decide (((limbs (modZ (val xs) (val ys))).length : Int) > 0)))))) rfl ?_
    refine mV hTT _ rfl ?_
    refine mNil ?_
    refine tN ?_
    refine cCond rfl (fun hc1 => ?_) (fun hc1 => ?_)
    · skip
      refine cSeq ?_
      refine cReg ?_
      refine mV hTT _ rfl ?_
      refine mB hTT (.d (.one (.row 1 1 (fun i' j' => (([.v (.int .u32 1)])[i' * 1 + j']?).getD (.v undef))))) rfl ?_
      refine mC0 (aLAdd (isl K ((val xs) / (val ys))) one_row (M := (max K 1 + 1)) (by omega) (by omega) (by decide)) rfl rfl rfl ?_
      refine mV hTT _ rfl ?_
      refine mNil ?_
      refine tN ?_
      refine cSeq ?_
      refine cReg ?_
      refine mV hTT (.ptr 3 1) rfl ?_
      refine mV hTT (.d (.one (lr L ys))) rfl ?_
      refine mV hTT _ rfl ?_
      refine mC0 (aLSub (islv L ys) (isl L (modZ (val xs) (val ys))) (by omega) (by omega)) rfl rfl rfl ?_
      refine mV hTT _ rfl ?_
      refine mV hTT _ rfl ?_
      refine mV hTT _ rfl ?_
      refine mV hTT _ rfl ?_
      refine mNil ?_
      refine tN ?_
      refine cReg ?_
      refine mV hTT _ rfl ?_
      refine mV hTT (.ptr 2 0) rfl ?_
      refine mV hTT (.d (.one (.v (.bool true)))) rfl ?_
      refine mV hTT (.ptr 3 0) rfl ?_
      refine mV hTT (.d (.one (.v (.bool t)))) rfl ?_
      refine mV hTT (.d (.one (.v (.bool (!(true == t)))))) rfl ?_
      refine mC0 (aMade (K := (max K 1 + 1)) (m := (((val xs) / (val ys)) + 1)) (neg := !(true == t)) rfl) rfl rfl rfl ?_
      refine mV hTT _ rfl ?_
      refine mC0 (aMade (K := L) (m := ((val ys) - (modZ (val xs) (val ys)))) (neg := false) rfl) rfl rfl rfl ?_
      refine mS hTT 4 (.box 24 (zn (max K 1 + 1) (zv (!(true == t)) (((val xs) / (val ys)) + 1)))) rfl ?_
      refine mS hTT 5 (.box 24 (zn L (zv false ((val ys) - (modZ (val xs) (val ys)))))) rfl ?_
      refine mNil ?_
      refine tN ?_
      refine cSeq ?_
      refine cAny (by kernel_rfl) ?_
      refine anyS [0, 1] (by kernel_rfl) rfl ?_
      refine ⟨⟨_, rfl, ?_⟩, ⟨_, rfl, ?_⟩, trivial⟩
      · skip
        refine mV hTT (.d (.agg (zn (max K 1 + 1) (zv (!(true == t)) (((val xs) / (val ys)) + 1))))) rfl ?_
        refine mNil ?_
        refine tN ?_
        refine anyS [1, 2] (by kernel_rfl) rfl ?_
        refine ⟨⟨_, rfl, ?_⟩, ⟨_, rfl, ?_⟩, trivial⟩
        · skip
          refine mV hTT (.d (.agg (zn L (zv false ((val ys) - (modZ (val xs) (val ys))))))) rfl ?_
          refine mNil ?_
          refine tN ?_
          refine anyS [2] (by kernel_rfl) rfl ?_
          refine ⟨⟨_, rfl, ?_⟩, trivial⟩
          refine mS hTT 4 (.box 24 (zn (max K 1 + 1) (zv (!(true == t)) (((val xs) / (val ys)) + 1)))) rfl ?_
          refine mNil ?_
          refine tN ?_
          refine anyS [3] (by kernel_rfl) rfl ?_
          refine ⟨⟨_, rfl, ?_⟩, trivial⟩
          refine mS hTT 5 (.box 24 (zn L (zv false ((val ys) - (modZ (val xs) (val ys)))))) rfl ?_
          refine mNil ?_
          refine tN ?_
          refine anyS [4] (by kernel_rfl) rfl ?_
          refine ⟨⟨_, rfl, ?_⟩, trivial⟩
          refine mV hTT _ rfl ?_
          refine mNil ?_
          refine tN ?_
          refine anyN (by kernel_rfl) ?_
          refine tN ?_
          refine cRet ?_
          obtain ⟨e1, e2⟩ := dm3 t (val xs) (val ys) hn (Nat.pos_of_ne_zero fun e => by have h0 := of_decide_eq_true hc1; rw [e] at h0; exact absurd h0 (by decide))
          exact rQ rfl (le_tup (dl (dle (le_zn (by omega) e1)) (dl (dle (le_zn (Nat.le_refl _) e2)) (dl DV.same dl0))))
        · skip
          refine mS hTT 4 (.box 24 (zn (max K 1 + 1) (zv (!(true == t)) (((val xs) / (val ys)) + 1)))) rfl ?_
          refine mNil ?_
          refine tN ?_
          refine anyS [1] (by kernel_rfl) rfl ?_
          refine ⟨⟨_, rfl, ?_⟩, trivial⟩
          refine mV hTT (.d (.agg (zn L (zv false ((val ys) - (modZ (val xs) (val ys))))))) rfl ?_
          refine mNil ?_
          refine tN ?_
          refine anyS [3] (by kernel_rfl) rfl ?_
          refine ⟨⟨_, rfl, ?_⟩, trivial⟩
          refine mS hTT 5 (.box 24 (zn L (zv false ((val ys) - (modZ (val xs) (val ys)))))) rfl ?_
          refine mNil ?_
          refine tN ?_
          refine anyS [4] (by kernel_rfl) rfl ?_
          refine ⟨⟨_, rfl, ?_⟩, trivial⟩
          refine mV hTT _ rfl ?_
          refine mNil ?_
          refine tN ?_
          refine anyN (by kernel_rfl) ?_
          refine tN ?_
          refine cRet ?_
          obtain ⟨e1, e2⟩ := dm3 t (val xs) (val ys) hn (Nat.pos_of_ne_zero fun e => by have h0 := of_decide_eq_true hc1; rw [e] at h0; exact absurd h0 (by decide))
          exact rQ rfl (le_tup (dl (dle (le_zn (by omega) e1)) (dl (dle (le_zn (Nat.le_refl _) e2)) (dl DV.same dl0))))
      · skip
        refine mV hTT (.d (.agg (zn L (zv false ((val ys) - (modZ (val xs) (val ys))))))) rfl ?_
        refine mNil ?_
        refine tN ?_
        refine anyS [0] (by kernel_rfl) rfl ?_
        refine ⟨⟨_, rfl, ?_⟩, trivial⟩
        refine mV hTT (.d (.agg (zn (max K 1 + 1) (zv (!(true == t)) (((val xs) / (val ys)) + 1))))) rfl ?_
        refine mNil ?_
        refine tN ?_
        refine anyS [2] (by kernel_rfl) rfl ?_
        refine ⟨⟨_, rfl, ?_⟩, trivial⟩
        refine mS hTT 4 (.box 24 (zn (max K 1 + 1) (zv (!(true == t)) (((val xs) / (val ys)) + 1)))) rfl ?_
        refine mNil ?_
        refine tN ?_
        refine anyS [3] (by kernel_rfl) rfl ?_
        refine ⟨⟨_, rfl, ?_⟩, trivial⟩
        refine mS hTT 5 (.box 24 (zn L (zv false ((val ys) - (modZ (val xs) (val ys)))))) rfl ?_
        refine mNil ?_
        refine tN ?_
        refine anyS [4] (by kernel_rfl) rfl ?_
        refine ⟨⟨_, rfl, ?_⟩, trivial⟩
        refine mV hTT _ rfl ?_
        refine mNil ?_
        refine tN ?_
        refine anyN (by kernel_rfl) ?_
        refine tN ?_
        refine cRet ?_
        obtain ⟨e1, e2⟩ := dm3 t (val xs) (val ys) hn (Nat.pos_of_ne_zero fun e => by have h0 := of_decide_eq_true hc1; rw [e] at h0; exact absurd h0 (by decide))
        exact rQ rfl (le_tup (dl (dle (le_zn (by omega) e1)) (dl (dle (le_zn (Nat.le_refl _) e2)) (dl DV.same dl0))))
    · skip
      refine cSkip ?_
      refine tN ?_
      refine cSeq ?_
      refine cAny (by kernel_rfl) ?_
      refine anyS [0, 1] (by kernel_rfl) rfl ?_
      refine ⟨⟨_, rfl, ?_⟩, ⟨_, rfl, ?_⟩, trivial⟩
      · skip
        refine mV hTT (.d (.agg (zn K (zv (!(true == t)) ((val xs) / (val ys)))))) rfl ?_
        refine mNil ?_
        refine tN ?_
        refine anyS [1, 2] (by kernel_rfl) rfl ?_
        refine ⟨⟨_, rfl, ?_⟩, ⟨_, rfl, ?_⟩, trivial⟩
        · skip
          refine mV hTT (.d (.agg (zn L (zv false (modZ (val xs) (val ys)))))) rfl ?_
          refine mNil ?_
          refine tN ?_
          refine anyS [2] (by kernel_rfl) rfl ?_
          refine ⟨⟨_, rfl, ?_⟩, trivial⟩
          refine mS hTT 4 (.box 24 (zn K (zv (!(true == t)) ((val xs) / (val ys))))) rfl ?_
          refine mNil ?_
          refine tN ?_
          refine anyS [3] (by kernel_rfl) rfl ?_
          refine ⟨⟨_, rfl, ?_⟩, trivial⟩
          refine mS hTT 5 (.box 24 (zn L (zv false (modZ (val xs) (val ys))))) rfl ?_
          refine mNil ?_
          refine tN ?_
          refine anyS [4] (by kernel_rfl) rfl ?_
          refine ⟨⟨_, rfl, ?_⟩, trivial⟩
          refine mV hTT _ rfl ?_
          refine mNil ?_
          refine tN ?_
          refine anyN (by kernel_rfl) ?_
          refine tN ?_
          refine cRet ?_
          obtain ⟨e1, e2⟩ := dm2 t (val xs) (val ys) hn (by have h0 := of_decide_eq_false hc1; have h1 := limbs_len (modZ (val xs) (val ys)); omega)
          exact rQ rfl (le_tup (dl (dle (le_zn (by omega) e1)) (dl (dle (le_zn (Nat.le_refl _) e2)) (dl DV.same dl0))))
        · skip
          refine mS hTT 4 (.box 24 (zn K (zv (!(true == t)) ((val xs) / (val ys))))) rfl ?_
          refine mNil ?_
          refine tN ?_
          refine anyS [1] (by kernel_rfl) rfl ?_
          refine ⟨⟨_, rfl, ?_⟩, trivial⟩
          refine mV hTT (.d (.agg (zn L (zv false (modZ (val xs) (val ys)))))) rfl ?_
          refine mNil ?_
          refine tN ?_
          refine anyS [3] (by kernel_rfl) rfl ?_
          refine ⟨⟨_, rfl, ?_⟩, trivial⟩
          refine mS hTT 5 (.box 24 (zn L (zv false (modZ (val xs) (val ys))))) rfl ?_
          refine mNil ?_
          refine tN ?_
          refine anyS [4] (by kernel_rfl) rfl ?_
          refine ⟨⟨_, rfl, ?_⟩, trivial⟩
          refine mV hTT _ rfl ?_
          refine mNil ?_
          refine tN ?_
          refine anyN (by kernel_rfl) ?_
          refine tN ?_
          refine cRet ?_
          obtain ⟨e1, e2⟩ := dm2 t (val xs) (val ys) hn (by have h0 := of_decide_eq_false hc1; have h1 := limbs_len (modZ (val xs) (val ys)); omega)
          exact rQ rfl (le_tup (dl (dle (le_zn (by omega) e1)) (dl (dle (le_zn (Nat.le_refl _) e2)) (dl DV.same dl0))))
      · skip
        refine mV hTT (.d (.agg (zn L (zv false (modZ (val xs) (val ys)))))) rfl ?_
        refine mNil ?_
        refine tN ?_
        refine anyS [0] (by kernel_rfl) rfl ?_
        refine ⟨⟨_, rfl, ?_⟩, trivial⟩
        refine mV hTT (.d (.agg (zn K (zv (!(true == t)) ((val xs) / (val ys)))))) rfl ?_
        refine mNil ?_
        refine tN ?_
        refine anyS [2] (by kernel_rfl) rfl ?_
        refine ⟨⟨_, rfl, ?_⟩, trivial⟩
        refine mS hTT 4 (.box 24 (zn K (zv (!(true == t)) ((val xs) / (val ys))))) rfl ?_
        refine mNil ?_
        refine tN ?_
        refine anyS [3] (by kernel_rfl) rfl ?_
        refine ⟨⟨_, rfl, ?_⟩, trivial⟩
        refine mS hTT 5 (.box 24 (zn L (zv false (modZ (val xs) (val ys))))) rfl ?_
        refine mNil ?_
        refine tN ?_
        refine anyS [4] (by kernel_rfl) rfl ?_
        refine ⟨⟨_, rfl, ?_⟩, trivial⟩
        refine mV hTT _ rfl ?_
        refine mNil ?_
        refine tN ?_
        refine anyN (by kernel_rfl) ?_
        refine tN ?_
        refine cRet ?_
        obtain ⟨e1, e2⟩ := dm2 t (val xs) (val ys) hn (by have h0 := of_decide_eq_false hc1; have h1 := limbs_len (modZ (val xs) (val ys)); omega)
        exact rQ rfl (le_tup (dl (dle (le_zn (by omega) e1)) (dl (dle (le_zn (Nat.le_refl _) e2)) (dl DV.same dl0))))

set_option maxRecDepth 100000 in
set_option maxHeartbeats 4000000 in
theorem aDivMod0 {a b : List Lf} {K L : Nat} {x : Int} (ha : IsZ a K x) (hb : IsZ b L 0) (hK : K ≤ 1073741823 := by decide) (hL : L ≤ 1073741823 := by decide) : ACall Try.prog 15 [.agg a, .agg b] (.tup [.agg (zn 0 0), .agg (zn 0 0), .one (.v (.int .i64 2))]) := by
  obtain ⟨s, xs, ha, rfl⟩ := ha
  obtain ⟨t, ys, hb, hn⟩ := hb
  replace hn : val ys = 0 := by rw [← zv_abs t (val ys), hn]; rfl
  refine ACall.le (dl (DV.z ha) (dl (DV.z hb) dl0)) AV.le.rfl ?_
  refine acallN hTT 60 [.cell 4 24, .cell 5 24, .tmp 6] Try.func15 rfl rfl rfl rfl rfl ?_
  refine cSeq ?_
  refine cReg ?_
  refine mN hTT (.box 24 ([.v (.bool s), lr K xs])) rfl rfl rfl ?_
  refine mN hTT (.box 24 ([.v (.bool t), lr L ys])) rfl rfl rfl ?_
  refine mN hTT (.box 24 ([.v (.bool false), .v (.slice none 0 0)])) rfl rfl rfl ?_
  refine mN hTT (.box 24 ([.v (.bool false), .v (.slice none 0 0)])) rfl rfl rfl ?_
  refine mV hTT _ rfl ?_
  refine mNil ?_
  refine tN ?_
  refine cSeq ?_
  refine cReg ?_
  refine mV hTT (.ptr 2 1) rfl ?_
  refine mV hTT (.d (.one (lr K xs))) rfl ?_
  refine mV hTT (.ptr 3 1) rfl ?_
  refine mV hTT (.d (.one (lr L ys))) rfl ?_
  refine mC0 (aLDiv (islv K xs) (islv L ys) (by omega) (by omega)) rfl rfl rfl ?_
  refine mV hTT _ rfl ?_
  refine mV hTT _ rfl ?_
  refine mV hTT _ rfl ?_
  refine mV hTT _ rfl ?_
  refine mV hTT _ rfl ?_
  refine mV hTT _ rfl ?_
  refine mV hTT _ rfl ?_
  refine mNil ?_
  refine tN ?_
  refine cSeq ?_
  refine cSeq ?_
  refine cReg ?_
  refine mV hTT _ rfl ?_
  refine mV hTT (.d (.one (.v (.bool true)))) (evb (by rw [show divErr (val ys) = 2 from if_pos hn]; rfl)) ?_
  refine mNil ?_
  refine tN ?_
  refine cT rfl ?_
  refine cSeq ?_
  refine cReg ?_
  refine mV hTT (.d (.agg ([.v (.bool false), .v (.slice none 0 0)]))) rfl ?_
  refine mV hTT (.d (.agg ([.v (.bool false), .v (.slice none 0 0)]))) rfl ?_
  refine mV hTT _ rfl ?_
  refine mS hTT 4 (.box 24 ([.v (.bool false), .v (.slice none 0 0)])) rfl ?_
  refine mS hTT 5 (.box 24 ([.v (.bool false), .v (.slice none 0 0)])) rfl ?_
  refine mV hTT _ rfl ?_
  refine mNil ?_
  refine tN ?_
  refine cRet ?_
  refine tR ?_
  exact rQ rfl (le_tup (dl (DV.g fun _ _ _ h => nil_ls h) (dl (DV.g fun _ _ _ h => nil_ls h) (dl (dle (le_int (if_pos hn))) dl0))))

set_option maxRecDepth 100000 in
set_option maxHeartbeats 4000000 in
theorem aExact {a b : List Lf} {K L M : Nat} {x y : Int} (ha : IsZ a K x) (hb : IsZ b L y) (hy : y ≠ 0) (hd : y ∣ x) (hM : max K 1 + 1 ≤ M := by decide) (hK : K ≤ 1073741823 := by decide) (hL : L ≤ 1073741823 := by decide) : ACall Try.prog 23 [.agg a, .agg b] (.tup [.agg (zn M (x / y)), .one (.v (.int .i64 0))]) := by
  obtain ⟨sa, xa, ha, ea⟩ := ha
  obtain ⟨sb, xb, hb, eb⟩ := hb
  refine ACall.le (dl (DV.z ha) (dl (DV.z hb) dl0)) AV.le.rfl ?_
  refine acallN hTT 26 [.cell 4 24, .tmp 5] Try.func23 rfl rfl rfl rfl rfl ?_
  refine cSeq ?_
  refine cReg ?_
  refine mN hTT (.box 24 ([.v (.bool sa), lr K xa])) rfl rfl rfl ?_
  refine mN hTT (.box 24 ([.v (.bool sb), lr L xb])) rfl rfl rfl ?_
  refine mN hTT (.box 24 ([.v (.bool false), .v (.slice none 0 0)])) rfl rfl rfl ?_
  refine mV hTT _ rfl ?_
  refine mNil ?_
  refine tN ?_
  refine cSeq ?_
  refine cReg ?_
  refine mV hTT (.d (.agg ([.v (.bool sa), lr K xa]))) rfl ?_
  refine mV hTT (.d (.agg ([.v (.bool sb), lr L xb]))) rfl ?_
  refine mC0 (aDivMod ⟨sa, xa, fun _ _ _ h => h, ea⟩ ⟨sb, xb, fun _ _ _ h => h, eb⟩ hy (M := (max K 1 + 1)) (by omega) (by omega) (by omega)) rfl rfl rfl ?_
  refine mV hTT _ rfl ?_
  refine mV hTT _ rfl ?_
  refine mV hTT _ rfl ?_
  refine mV hTT _ rfl ?_
  refine mN hTT (.box 24 ([.v (.bool false), .v (.slice none 0 0)])) rfl rfl rfl ?_
  refine mN hTT (.box 24 ([.v (.bool false), .v (.slice none 0 0)])) rfl rfl rfl ?_
  refine mS hTT 6 (.box 24 (zn (max K 1 + 1) (x / y))) rfl ?_
  refine mS hTT 7 (.box 24 (zn L (x % y))) rfl ?_
  refine mV hTT _ rfl ?_
  refine mNil ?_
  refine tN ?_
  refine cSeq ?_
  refine cSeq ?_
  refine cReg ?_
  refine mV hTT _ rfl ?_
  refine mV hTT (.d (.one (.v (.bool false)))) rfl ?_
  refine mNil ?_
  refine tN ?_
  refine cF rfl ?_
  refine cSkip ?_
  refine tN ?_
  refine cSeq ?_
  refine cSeq ?_
  refine cReg ?_
  refine mV hTT (.ptr 7 1) rfl ?_
  refine mV hTT (.d (.one (ln L (Int.natAbs (x % y))))) rfl ?_
  refine mV hTT (.d (.one (.v (.int .i64 ((limbs (Int.natAbs (x % y))).length : Int))))) rfl ?_
  refine mV hTT (.d (.one (.v (.bool false)))) (evb (decide_eq_false (by rw [Int.emod_eq_zero_of_dvd hd]; decide))) ?_
  refine mNil ?_
  refine tN ?_
  refine cF rfl ?_
  refine cSkip ?_
  refine tN ?_
  refine cSeq ?_
  refine cReg ?_
  refine mV hTT (.d (.agg (zn (max K 1 + 1) (x / y)))) rfl ?_
  refine mS hTT 4 (.box 24 (zn (max K 1 + 1) (x / y))) rfl ?_
  refine mV hTT _ rfl ?_
  refine mNil ?_
  refine tN ?_
  refine cRet ?_
  exact rQ rfl (le_tup (dl (dle (le_zn hM rfl)) (dl DV.same dl0)))

set_option maxRecDepth 100000 in
set_option maxHeartbeats 4000000 in
theorem aGcd {l : Lf} {K n : Nat} {c : Nat → Int} (ha : IsP l K n c) (hn : n ≤ 1000000 := by decide) (hK : K ≤ 1073741823 := by decide) : ACall Try.prog 26 [.one l] (.d (.agg (zn K (gcdN c n : Nat)))) := by
  obtain ⟨⟨f, ha, hf⟩, hz⟩ := ha
  refine ACall.le (dl (DV.l ha) dl0) AV.le.rfl ?_
  refine acallN hTT 44 [.cell 2 24] Try.func26 rfl rfl rfl rfl rfl ?_
  refine cSeq ?_
  refine cReg ?_
  refine mN hTT (.box 24 ([.v (.bool false), .v (.slice none 0 0)])) rfl rfl rfl ?_
  refine mNil ?_
  refine tN ?_
  refine cSeq ?_
  refine cReg ?_
  refine mV hTT _ rfl ?_
  refine mNil ?_
  refine tN ?_
  refine cSeq ?_
  refine cSeq ?_
  refine cView 3 (.d (.one (ln K (gcdN c 0)))) rfl (nil_lr K) ?_
  refine cReg ?_
  refine mV hTT _ rfl ?_
  refine mV hTT (.d (.one (.v (.int .i64 (n : Int))))) rfl ?_
  refine mV hTT _ rfl ?_
  refine mNil ?_
  refine tN ?_
  refine cBlock ?_
  refine cLoop (ι := Nat) (fun (i : Nat) => ⟨44, [(2, .ptr 2 0), (10, .d (.one (.row 2 n (ael K f)))), (11, .d (.one (.v (.int .i64 (n : Int))))), (12, .d (.one (.v (.int .i64 ((i : Nat) : Int))))), (3, .d (.one (ln K (gcdN c i))))], [(2, .box 24 ([.v (.bool false), .v (.slice none 0 0)]))]⟩) (fun (i : Nat) => i ≤ n) (fun (i : Nat) => n - i) 0 (Nat.zero_le _) (wk (sl := [(2, .ptr 2 0), (10, .d (.one (.row 2 n (ael K f)))), (11, .d (.one (.v (.int .i64 (n : Int))))), (12, .d (.one (.v (.int .i64 ((0 : Nat) : Int))))), (3, .d (.one (ln K (gcdN c 0))))]) (hp := [(2, .box 24 ([.v (.bool false), .v (.slice none 0 0)]))]) rfl ⟨hs rfl, hs rfl, hs rfl, hs rfl, hs rfl, trivial⟩ ⟨ho rfl, trivial⟩ rfl) ?_
  rintro i hI
  have hi0 : i ≤ n := hI
  show AW Try.prog _ _ ⟨44, [(2, .ptr 2 0), (10, .d (.one (.row 2 n (ael K f)))), (11, .d (.one (.v (.int .i64 (n : Int))))), (12, .d (.one (.v (.int .i64 ((i : Nat) : Int))))), (3, .d (.one (ln K (gcdN c i))))], [(2, .box 24 ([.v (.bool false), .v (.slice none 0 0)]))]⟩
  refine cSeq ?_
  refine cReg ?_
  refine mV hTT (.d (.one (.v (.bool (decide (((i : Nat) : Int) < (n : Int))))))) rfl ?_
  refine mNil ?_
  refine tN ?_
  refine cSeq ?_
  refine cCond rfl (fun hc1 => ?_) (fun hc1 => ?_)
  · skip
    refine cSkip ?_
    refine tN ?_
    refine cSeq ?_
    refine cBlock ?_
    refine cSeq ?_
    have hi : i < n := by have h0 := of_decide_eq_true hc1; omega
    refine cReg ?_
    refine mV hTT (.d (.one (.at 2 ((ael K f) i)))) (ixR (el := (ael K f)) (z := ((i : Nat) : Int)) (n := n) rfl rfl rfl rfl rfl rfl (by omega) (by omega)) ?_
    refine mV hTT (.d (.agg ([.v (.bool ((f i).1)), lr K ((f i).2)]))) rfl ?_
    refine mN hTT (.box 24 ([.v (.bool false), .v (.slice none 0 0)])) rfl rfl rfl ?_
    refine mS hTT 5 (.box 24 ([.v (.bool ((f i).1)), lr K ((f i).2)])) rfl ?_
    refine mNil ?_
    refine tN ?_
    refine cSeq ?_
    refine cReg ?_
    refine mV hTT (.ptr 5 1) rfl ?_
    refine mV hTT (.d (.one (lr K ((f i).2)))) rfl ?_
    refine mC0 (aLNorm (islv K ((f i).2)) (by omega)) rfl rfl rfl ?_
    refine mV hTT _ rfl ?_
    refine mNil ?_
    refine tN ?_
    refine cSeq ?_
    refine cBlock ?_
    refine cLoop (ι := Nat × Nat) (fun (p : Nat × Nat) => match p with | (x, y) => ⟨44, [(2, .ptr 2 0), (10, .d (.one (.row 2 n (ael K f)))), (11, .d (.one (.v (.int .i64 (n : Int))))), (12, .d (.one (.v (.int .i64 ((i : Nat) : Int))))), (3, .d (.one (ln K x))), (6, .d (.one (ln K y)))], [(2, .box 24 ([.v (.bool false), .v (.slice none 0 0)]))]⟩) (fun (p : Nat × Nat) => match p with | (x, y) => Nat.gcd x y = gcdN c (i + 1)) (fun (p : Nat × Nat) => match p with | (x, y) => y) ((gcdN c i), (val (f i).2)) (by show Nat.gcd (gcdN c i) (val (f i).2) = Nat.gcd (gcdN c i) (c i).natAbs; rw [← hf i hi, show (fzv f i).natAbs = val (f i).2 from zv_abs _ _]) (wk (sl := [(2, .ptr 2 0), (10, .d (.one (.row 2 n (ael K f)))), (11, .d (.one (.v (.int .i64 (n : Int))))), (12, .d (.one (.v (.int .i64 ((i : Nat) : Int))))), (3, .d (.one (ln K (gcdN c i)))), (6, .d (.one (ln K (val (f i).2))))]) (hp := [(2, .box 24 ([.v (.bool false), .v (.slice none 0 0)]))]) rfl ⟨hs rfl, hs rfl, hs rfl, hs rfl, hs rfl, hs rfl, trivial⟩ ⟨ho rfl, trivial⟩ rfl) ?_
    rintro ⟨x, y⟩ hI
    have hg : Nat.gcd x y = gcdN c (i + 1) := hI
    show AW Try.prog _ _ ⟨44, [(2, .ptr 2 0), (10, .d (.one (.row 2 n (ael K f)))), (11, .d (.one (.v (.int .i64 (n : Int))))), (12, .d (.one (.v (.int .i64 ((i : Nat) : Int))))), (3, .d (.one (ln K x))), (6, .d (.one (ln K y)))], [(2, .box 24 ([.v (.bool false), .v (.slice none 0 0)]))]⟩
    refine cSeq ?_
    refine cSeq ?_
    refine cReg ?_
    refine mV hTT _ rfl ?_
    refine mV hTT (.d (.one (.v (.int .i64 ((limbs y).length : Int))))) rfl ?_
    refine mV hTT (.d (.one (.v (.bool (decide (((limbs y).length : Int) > 0)))))) rfl ?_
    refine mNil ?_
    refine tN ?_
    refine cCond rfl (fun hc2 => ?_) (fun hc2 => ?_)
    · skip
      refine cSkip ?_
      refine tN ?_
      refine cBlock ?_
      refine cSeq ?_
      have hy0 : y ≠ 0 := fun e => by have h0 := of_decide_eq_true hc2; rw [e] at h0; exact absurd h0 (by decide)
      refine cReg ?_
      refine mV hTT _ rfl ?_
      refine mV hTT _ rfl ?_
      refine mC0 (aLDiv (isl K x) (isl K y) (by omega) (by omega)) rfl rfl rfl ?_
      refine mV hTT _ rfl ?_
      refine mV hTT _ rfl ?_
      refine mV hTT _ rfl ?_
      refine mV hTT _ rfl ?_
      refine mV hTT _ rfl ?_
      refine mV hTT _ rfl ?_
      refine mV hTT _ rfl ?_
      refine mNil ?_
      refine tN ?_
      refine cReg ?_
      refine mV hTT _ rfl ?_
      refine mV hTT _ rfl ?_
      refine mV hTT _ rfl ?_
      refine mV hTT _ rfl ?_
      refine mNil ?_
      refine bN ?_
      exact ⟨(y, (modZ x y)), by show Nat.gcd y (modZ x y) = _; unfold modZ; rw [if_neg hy0, ← hg, Nat.gcd_comm x y, Nat.gcd_rec y x, Nat.gcd_comm], by show modZ x y < y; unfold modZ; rw [if_neg hy0]; exact Nat.mod_lt _ (Nat.pos_of_ne_zero hy0), wk (sl := [(2, .ptr 2 0), (10, .d (.one (.row 2 n (ael K f)))), (11, .d (.one (.v (.int .i64 (n : Int))))), (12, .d (.one (.v (.int .i64 ((i : Nat) : Int))))), (3, .d (.one (ln K y))), (6, .d (.one (ln K (modZ x y))))]) (hp := [(2, .box 24 ([.v (.bool false), .v (.slice none 0 0)]))]) rfl ⟨hs rfl, hs rfl, hs rfl, hs rfl, hs rfl, hs rfl, trivial⟩ ⟨ho rfl, trivial⟩ rfl⟩
    · skip
      refine cExit ?_
      refine tE ?_
      refine tE ?_
      refine bE ?_
      refine tN ?_
      refine cSeq ?_
      have hy0 : y = 0 := by have h0 := of_decide_eq_false hc2; have h1 := limbs_len y; omega
      have hx : x = gcdN c (i + 1) := by rw [← hg, hy0, Nat.gcd_zero_right]
      by_cases hl1 : (limbs x).length = 1
      · skip
        refine cReg ?_
        refine mV hTT _ rfl ?_
        refine mV hTT (.d (.one (.v (.int .i64 ((limbs x).length : Int))))) rfl ?_
        refine mV hTT (.d (.one (.v (.bool true)))) (evb (by rw [hl1]; rfl)) ?_
        refine mV hTT _ rfl ?_
        refine mV hTT _ rfl ?_
        refine mView 35 (.d (.one (.row 1 ((limbs x).length) (fun i _ => .v (.int .u32 (((limbs x).getD i 0 : Nat) : Int)))))) rfl (le_lrow _ _) ?_
        refine mV hTT (.d (.one (.at 1 ((fun i _ => .v (.int .u32 (((limbs x).getD i 0 : Nat) : Int))) 0)))) (ixR (el := (fun i _ => .v (.int .u32 (((limbs x).getD i 0 : Nat) : Int)))) (z := 0) (n := ((limbs x).length)) rfl rfl rfl rfl rfl rfl (by decide) (by rw [hl1]; decide)) ?_
        refine mV hTT (.d (.one (.v (.int .u32 (((limbs x).getD 0 0 : Nat) : Int))))) rfl ?_
        refine mV hTT (.d (.one (.v (.bool ((((limbs x).getD 0 0 : Nat) : Int) == 1))))) rfl ?_
        refine mV hTT _ rfl ?_
        refine mNil ?_
        refine tN ?_
        refine cCond rfl (fun hc3 => ?_) (fun hc3 => ?_)
        · skip
          refine cExit ?_
          refine bX rfl ?_
          refine tE ?_
          refine tE ?_
          refine bE ?_
          refine tN ?_
          refine cSeq ?_
          refine cReg ?_
          refine mV hTT _ rfl ?_
          refine mC0 (aLNorm (isl K x) (by omega)) rfl rfl rfl ?_
          refine mC0 (aMade (K := K) (m := x) (neg := false) rfl) rfl rfl rfl ?_
          refine mS hTT 2 (.box 24 (zn K (zv false x))) rfl ?_
          refine mNil ?_
          refine tN ?_
          refine cRet ?_
          have h1 : x = 1 := limbs1.1 ⟨hl1, by have h0 := eq_of_beq hc3; exact Int.ofNat_inj.1 h0⟩
          exact rQ rfl (le_zn (Nat.le_refl _) (by show ((x : Nat) : Int) = _; rw [h1, gcdN_one (hx ▸ h1) (show i + 1 ≤ n from hi)]))
        · skip
          refine cSkip ?_
          refine bN ?_
          refine tN ?_
          refine cReg ?_
          refine mV hTT (.d (.one (.v (.int .i64 (IntKind.i64.wrap (((i : Nat) : Int) + 1)))))) rfl ?_
          refine mV hTT _ rfl ?_
          refine mNil ?_
          exact ⟨(i + 1), by omega, by omega, wk (sl := [(2, .ptr 2 0), (10, .d (.one (.row 2 n (ael K f)))), (11, .d (.one (.v (.int .i64 (n : Int))))), (12, .d (.one (.v (.int .i64 (((i + 1) : Nat) : Int))))), (3, .d (.one (ln K (gcdN c (i + 1)))))]) (hp := [(2, .box 24 ([.v (.bool false), .v (.slice none 0 0)]))]) rfl ⟨hs rfl, hs rfl, hs rfl, hs' rfl (le_int (inc64 (by omega))), hs' rfl (le_one (hx ▸ fun _ _ _ h => h)), trivial⟩ ⟨ho rfl, trivial⟩ rfl⟩
      · skip
        refine cReg ?_
        refine mV hTT _ rfl ?_
        refine mV hTT (.d (.one (.v (.int .i64 ((limbs x).length : Int))))) rfl ?_
        refine mV hTT (.d (.one (.v (.bool false)))) (evb (beq_eq_false_iff_ne.2 fun e => hl1 (by exact_mod_cast e))) ?_
        refine mV hTT _ rfl ?_
        refine mG rfl rfl ?_
        refine mG rfl rfl ?_
        refine mG rfl rfl ?_
        refine mG rfl rfl ?_
        refine mV hTT _ rfl ?_
        refine mNil ?_
        refine tN ?_
        refine cF rfl ?_
        refine cSkip ?_
        refine bN ?_
        refine tN ?_
        refine cReg ?_
        refine mV hTT (.d (.one (.v (.int .i64 (IntKind.i64.wrap (((i : Nat) : Int) + 1)))))) rfl ?_
        refine mV hTT _ rfl ?_
        refine mNil ?_
        exact ⟨(i + 1), by omega, by omega, wk (sl := [(2, .ptr 2 0), (10, .d (.one (.row 2 n (ael K f)))), (11, .d (.one (.v (.int .i64 (n : Int))))), (12, .d (.one (.v (.int .i64 (((i + 1) : Nat) : Int))))), (3, .d (.one (ln K (gcdN c (i + 1)))))]) (hp := [(2, .box 24 ([.v (.bool false), .v (.slice none 0 0)]))]) rfl ⟨hs rfl, hs rfl, hs rfl, hs' rfl (le_int (inc64 (by omega))), hs' rfl (le_one (hx ▸ fun _ _ _ h => h)), trivial⟩ ⟨ho rfl, trivial⟩ rfl⟩
  · skip
    refine cExit ?_
    refine tE ?_
    refine tE ?_
    refine bE ?_
    refine tN ?_
    refine cSeq ?_
    refine cReg ?_
    refine mV hTT _ rfl ?_
    refine mC0 (aLNorm (isl K (gcdN c i)) (by omega)) rfl rfl rfl ?_
    refine mC0 (aMade (K := K) (m := (gcdN c i)) (neg := false) rfl) rfl rfl rfl ?_
    refine mS hTT 2 (.box 24 (zn K (zv false (gcdN c i)))) rfl ?_
    refine mNil ?_
    refine tN ?_
    refine cRet ?_
    have hin : i = n := by have h0 := of_decide_eq_false hc1; omega
    exact rQ rfl (le_zn (Nat.le_refl _) (by rw [hin]; rfl))

end Go.Proofs.Ytkcagkcphobmfaa
