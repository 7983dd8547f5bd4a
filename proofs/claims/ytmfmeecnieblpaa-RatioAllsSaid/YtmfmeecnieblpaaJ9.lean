/-
  THE LAWS of chapter 4, by the machine (2).
-/
import Derived.Test.YtmfmeecnieblpaaJ7
set_option linter.unusedVariables false
set_option linter.unusedSimpArgs false
namespace Go.Proofs.Ytmfmeecnieblpaa
open Go.RowKit

set_option maxRecDepth 100000 in
set_option maxHeartbeats 4000000 in
theorem aRDivMod {a b : List Lf} {K L M : Nat} {x y : Int} (ha : IsR a K x) (hb : IsR b L y) (hy : 0 < y) (hM : max K 64 + L + 2 ≤ M := by decide) (hMM : M ≤ 100000000 := by decide) : ACall Try.prog 54 [.agg a, .agg b] (.tup [.agg (rn M (x / y)), .agg (rn M (x % y))]) := by
  refine ACall.le (dl (DV.g ha) (dl (DV.g hb) dl0)) AV.le.rfl ?_
  have hy0 : y.natAbs ≠ 0 := by omega
  have hyn : ¬ y < 0 := by omega
  refine acallN hTT 48 [.cell 4 34, .cell 5 34] Try.func54 rfl rfl rfl rfl rfl ?_
  refine cSeq ?_
  refine cReg ?_
  refine mN hTT (.box 34 (rn K x)) rfl rfl rfl ?_
  refine mN hTT (.box 34 (rn L y)) rfl rfl rfl ?_
  refine mN hTT (.box 34 ([.v (.slice none 0 0), .v (.bool false)])) rfl rfl rfl ?_
  refine mN hTT (.box 34 ([.v (.slice none 0 0), .v (.bool false)])) rfl rfl rfl ?_
  refine mNil ?_
  refine tN ?_
  refine cSeq ?_
  refine cReg ?_
  refine mV hTT (.ptr 2 0) rfl ?_
  refine mV hTT (.d (.one (dn K x.natAbs))) rfl ?_
  refine mV hTT (.ptr 3 0) rfl ?_
  refine mV hTT (.d (.one (dn L y.natAbs))) rfl ?_
  refine mC0 (aNDiv (isd K x.natAbs) (isd L y.natAbs) (by omega) (by omega) (by omega)) rfl rfl rfl ?_
  refine mV hTT _ rfl ?_
  refine mV hTT _ rfl ?_
  refine mV hTT _ rfl ?_
  refine mV hTT _ rfl ?_
  refine mV hTT _ rfl ?_
  refine mNil ?_
  refine tN ?_
  refine cSeq ?_
  refine cDrawK hTT 13 (by kernel_rfl) (by kernel_rfl) (by kernel_rfl) ?_
  refine .cons (OpS.V _ rfl) ?_
  refine .cons (OpS.V (.ptr 2 1) rfl) ?_
  refine .cons (OpS.V (.d (.one (.v (.bool (decide (x < 0)))))) rfl) ?_
  refine .cons (OpS.V (.ptr 3 1) rfl) ?_
  refine .cons (OpS.V (.d (.one (.v (.bool (decide (y < 0)))))) rfl) ?_
  refine .cons (OpS.V (.d (.one (.v (.bool (decide (x < 0)))))) (evb (by rw [decide_eq_false hyn]; cases decide (x < 0) <;> rfl))) ?_
  refine .cons (OpS.C0 (aRMade (K := K) (m := (x.natAbs / y.natAbs)) (neg := decide (x < 0)) rfl) rfl rfl rfl) ?_
  refine .cons (OpS.V _ rfl) ?_
  refine .cons (OpS.V (.ptr 2 1) rfl) ?_
  refine .cons (OpS.V (.d (.one (.v (.bool (decide (x < 0)))))) rfl) ?_
  refine .cons (OpS.C0 (aRMade (K := L) (m := (x.natAbs % y.natAbs)) (neg := decide (x < 0)) rfl) rfl rfl rfl) ?_
  refine .cons (OpS.N (.box 34 ([.v (.slice none 0 0), .v (.bool false)])) rfl 8 rfl rfl) ?_
  refine .cons (OpS.N (.box 34 ([.v (.slice none 0 0), .v (.bool false)])) rfl 9 rfl rfl) ?_
  refine .nil ?_
  refine mS hTT 8 (.box 34 (rn K (zv (decide (x < 0)) (x.natAbs / y.natAbs)))) rfl ?_
  refine mS hTT 9 (.box 34 (rn L (zv (decide (x < 0)) (x.natAbs % y.natAbs)))) rfl ?_
  refine mNil ?_
  refine tN ?_
  refine cSeq ?_
  refine cSeq ?_
  by_cases hr : x < 0 ∧ x.natAbs % y.natAbs ≠ 0
  · skip
    refine cReg ?_
    refine mV hTT (.ptr 9 1) rfl ?_
    refine mV hTT (.d (.one (.v (.bool (decide ((zv (decide (x < 0)) (x.natAbs % y.natAbs)) < 0)))))) rfl ?_
    refine mV hTT (.d (.one (.v (.bool false)))) (evb (by rw [decide_eq_true (zv_lt.2 ⟨decide_eq_true hr.1, hr.2⟩)]; rfl)) ?_
    refine mNil ?_
    refine tN ?_
    refine cF rfl ?_
    refine cSkip ?_
    refine tN ?_
    refine cSeq ?_
    refine cSeq ?_
    refine cReg ?_
    refine mV hTT (.ptr 3 1) rfl ?_
    refine mV hTT (.d (.one (.v (.bool (decide (y < 0)))))) rfl ?_
    refine mNil ?_
    refine tN ?_
    refine cView 35 (.d (.one (.v (.bool false)))) rfl (le_bool (decide_eq_false hyn)) ?_
    refine cF rfl ?_
    refine cSkip ?_
    refine tN ?_
    refine cSeq ?_
    refine cDrawK hTT 6 (by kernel_rfl) (by kernel_rfl) (by kernel_rfl) ?_
    refine .cons (OpS.V (.d (.agg (rn K (zv (decide (x < 0)) (x.natAbs / y.natAbs))))) rfl) ?_
    refine .cons (OpS.C0 (aROf (n := 1) (by decide) (by decide)) rfl rfl rfl) ?_
    refine .cons (OpS.C0 (aRSub (isr K (zv (decide (x < 0)) (x.natAbs / y.natAbs))) (isr 64 1) (M := (max K 64 + 1)) (by omega) (by omega) (by decide)) rfl rfl rfl) ?_
    refine .cons (OpS.V (.d (.agg (rn L (zv (decide (x < 0)) (x.natAbs % y.natAbs))))) rfl) ?_
    refine .cons (OpS.V (.d (.agg (rn L y))) rfl) ?_
    refine .cons (OpS.C0 (aRAdd (isr L (zv (decide (x < 0)) (x.natAbs % y.natAbs))) (isr L y) (M := (max L L + 1)) (by omega) (by omega) (by omega)) rfl rfl rfl) ?_
    refine .nil ?_
    refine mS hTT 4 (.box 34 (rn (max K 64 + 1) ((zv (decide (x < 0)) (x.natAbs / y.natAbs)) - 1))) rfl ?_
    refine mS hTT 5 (.box 34 (rn (max L L + 1) ((zv (decide (x < 0)) (x.natAbs % y.natAbs)) + y))) rfl ?_
    refine mNil ?_
    refine tN ?_
    refine cRet ?_
    exact rQ rfl (le_tup (dl (dle (le_rn (by omega) (dmN hy hr).1)) (dl (dle (le_rn (by omega) (dmN hy hr).2)) dl0)))
  · skip
    refine cReg ?_
    refine mV hTT (.ptr 9 1) rfl ?_
    refine mV hTT (.d (.one (.v (.bool (decide ((zv (decide (x < 0)) (x.natAbs % y.natAbs)) < 0)))))) rfl ?_
    refine mV hTT (.d (.one (.v (.bool true)))) (evb (by rw [decide_eq_false (fun e => hr ⟨of_decide_eq_true (zv_lt.1 e).1, (zv_lt.1 e).2⟩)]; rfl)) ?_
    refine mNil ?_
    refine tN ?_
    refine cT rfl ?_
    refine cSeq ?_
    refine cDrawS hTT 4 (by kernel_rfl) (by kernel_rfl) ?_
    refine .cons (OpS.V (.d (.agg (rn K (zv (decide (x < 0)) (x.natAbs / y.natAbs))))) rfl) (by kernel_rfl) ?_
    refine .cons (OpS.V (.d (.agg (rn L (zv (decide (x < 0)) (x.natAbs % y.natAbs))))) rfl) (by kernel_rfl) ?_
    refine .cons (OpS.S 4 (.box 34 (rn K (zv (decide (x < 0)) (x.natAbs / y.natAbs)))) rfl rfl) (by kernel_rfl) ?_
    refine .cons (OpS.S 5 (.box 34 (rn L (zv (decide (x < 0)) (x.natAbs % y.natAbs)))) rfl rfl) (by kernel_rfl) ?_
    refine .nil ?_
    refine mNil ?_
    refine tN ?_
    refine cRet ?_
    refine tR ?_
    exact rQ rfl (le_tup (dl (dle (le_rn (by omega) (dmP hy hr).1)) (dl (dle (le_rn (by omega) (dmP hy hr).2)) dl0)))

set_option maxRecDepth 100000 in
set_option maxHeartbeats 4000000 in
theorem aRatioShapes {L1 : Nat} {s1 t1 : Bool} {xs1 ys1 : List Nat} {L2 : Nat} {s2 t2 : Bool} {xs2 ys2 : List Nat} {L3 : Nat} {s3 : Bool} {xs3 : List Nat} (hL1 : L1 ≤ 9223372036854775807) (hL2 : L2 ≤ 9223372036854775807) (hL3 : L3 ≤ 9223372036854775807) : ACall Try.prog 6 [.agg (tan L1 s1 xs1 t1 ys1), .agg (tan L2 s2 xs2 t2 ys2), .agg [.v (.bool s3), lr L3 xs3]] (.d (.one (.v (.bool true)))) := by
  refine acallN hTT 122 [.tmp 6] Try.func6 rfl rfl rfl rfl rfl ?_
  refine cSeq ?_
  refine cReg ?_
  refine mN hTT (.box 27 ([.v (.bool s1), lr L1 xs1] ++ [.v (.bool t1), lr L1 ys1])) rfl rfl rfl ?_
  refine mN hTT (.box 27 ([.v (.bool s2), lr L2 xs2] ++ [.v (.bool t2), lr L2 ys2])) rfl rfl rfl ?_
  refine mN hTT (.box 24 ([.v (.bool s3), lr L3 xs3])) rfl rfl rfl ?_
  refine mV hTT _ rfl ?_
  refine mNil ?_
  refine tN ?_
  refine cSeq ?_
  refine cReg ?_
  refine mV hTT (.d (.agg ([.v (.bool s1), lr L1 xs1] ++ [.v (.bool t1), lr L1 ys1]))) rfl ?_
  refine mC0 (aOf4 (K := L1) (k := 3) (M := 64) (s := s1) (t := t1) (xs := xs1) (ys := ys1) (by decide) (by decide) (by omega)) rfl rfl rfl ?_
  refine mV hTT _ rfl ?_
  refine mV hTT _ rfl ?_
  refine mV hTT _ rfl ?_
  refine mS hTT 3 (.box 27 ([.v (.bool s1), lr 3 (xs1.take 3)] ++ [.v (.bool t1), lr 3 (ys1.take 3)])) rfl ?_
  refine mNil ?_
  refine tN ?_
  refine cSeq ?_
  refine cReg ?_
  refine mV hTT (.d (.agg ([.v (.bool s2), lr L2 xs2] ++ [.v (.bool t2), lr L2 ys2]))) rfl ?_
  refine mC0 (aOf4 (K := L2) (k := 3) (M := 64) (s := s2) (t := t2) (xs := xs2) (ys := ys2) (by decide) (by decide) (by omega)) rfl rfl rfl ?_
  refine mV hTT _ rfl ?_
  refine mV hTT _ rfl ?_
  refine mV hTT _ rfl ?_
  refine mS hTT 4 (.box 27 ([.v (.bool s2), lr 3 (xs2.take 3)] ++ [.v (.bool t2), lr 3 (ys2.take 3)])) rfl ?_
  refine mNil ?_
  refine tN ?_
  refine cSeq ?_
  refine cReg ?_
  refine mV hTT (.d (.agg ([.v (.bool s3), lr L3 xs3]))) rfl ?_
  refine mC0 (aKInt (K := L3) (k := 2) (s := s3) (xs := xs3) (by omega) (by omega)) rfl rfl rfl ?_
  refine mS hTT 5 (.box 24 ([.v (.bool s3), lr 2 (xs3.take 2)])) rfl ?_
  refine mNil ?_
  refine tN ?_
  refine cSeq ?_
  refine cSeq ?_
  by_cases hm : (zv s3 (val (xs3.take 2))) = 0
  · skip
    refine cReg ?_
    refine mV hTT (.d (.agg ([.v (.bool s3), lr 2 (xs3.take 2)]))) rfl ?_
    refine mC0 (aNorm (iszr 2 s3 (xs3.take 2)) (by decide)) rfl rfl rfl ?_
    refine mC0 (aZero (isn 2 (zv s3 (val (xs3.take 2))))) rfl rfl rfl ?_
    refine mView 26 (.d (.one (.v (.bool true)))) rfl (le_bool (decide_eq_true hm)) ?_
    refine mV hTT _ rfl ?_
    refine mG rfl rfl ?_
    refine mG rfl rfl ?_
    refine mG rfl rfl ?_
    refine mG rfl rfl ?_
    refine mV hTT _ rfl ?_
    refine mNil ?_
    refine tN ?_
    refine cT rfl ?_
    refine cSeq ?_
    refine cReg ?_
    refine mC0 (aWakes4) rfl rfl rfl ?_
    refine mV hTT _ rfl ?_
    refine mNil ?_
    refine tN ?_
    refine cRet ?_
    refine tR ?_
    exact rQ rfl (AV.le.rfl)
  · skip
    by_cases hd : (zv t1 (val (ys1.take 3))) = 0
    · skip
      refine cReg ?_
      refine mV hTT (.d (.agg ([.v (.bool s3), lr 2 (xs3.take 2)]))) rfl ?_
      refine mC0 (aNorm (iszr 2 s3 (xs3.take 2)) (by decide)) rfl rfl rfl ?_
      refine mC0 (aZero (isn 2 (zv s3 (val (xs3.take 2))))) rfl rfl rfl ?_
      refine mView 26 (.d (.one (.v (.bool false)))) rfl (le_bool (decide_eq_false hm)) ?_
      refine mV hTT _ rfl ?_
      refine mV hTT (.ptr 3 2) rfl ?_
      refine mV hTT (.d (.agg ([.v (.bool t1), lr 3 (ys1.take 3)]))) rfl ?_
      refine mC0 (aNorm (iszr 3 t1 (ys1.take 3)) (by decide)) rfl rfl rfl ?_
      refine mC0 (aZero (isn 3 (zv t1 (val (ys1.take 3))))) rfl rfl rfl ?_
      refine mView 31 (.d (.one (.v (.bool true)))) rfl (le_bool (decide_eq_true hd)) ?_
      refine mV hTT _ rfl ?_
      refine mNil ?_
      refine tN ?_
      refine cT rfl ?_
      refine cSeq ?_
      refine cReg ?_
      refine mC0 (aWakes4) rfl rfl rfl ?_
      refine mV hTT _ rfl ?_
      refine mNil ?_
      refine tN ?_
      refine cRet ?_
      refine tR ?_
      exact rQ rfl (AV.le.rfl)
    · skip
      refine cReg ?_
      refine mV hTT (.d (.agg ([.v (.bool s3), lr 2 (xs3.take 2)]))) rfl ?_
      refine mC0 (aNorm (iszr 2 s3 (xs3.take 2)) (by decide)) rfl rfl rfl ?_
      refine mC0 (aZero (isn 2 (zv s3 (val (xs3.take 2))))) rfl rfl rfl ?_
      refine mView 26 (.d (.one (.v (.bool false)))) rfl (le_bool (decide_eq_false hm)) ?_
      refine mV hTT _ rfl ?_
      refine mV hTT (.ptr 3 2) rfl ?_
      refine mV hTT (.d (.agg ([.v (.bool t1), lr 3 (ys1.take 3)]))) rfl ?_
      refine mC0 (aNorm (iszr 3 t1 (ys1.take 3)) (by decide)) rfl rfl rfl ?_
      refine mC0 (aZero (isn 3 (zv t1 (val (ys1.take 3))))) rfl rfl rfl ?_
      refine mView 31 (.d (.one (.v (.bool false)))) rfl (le_bool (decide_eq_false hd)) ?_
      refine mV hTT _ rfl ?_
      refine mNil ?_
      refine tN ?_
      refine cF rfl ?_
      refine cSkip ?_
      refine tN ?_
      refine cSeq ?_
      refine cDrawK hTT 10 (by kernel_rfl) (by kernel_rfl) (by kernel_rfl) ?_
      refine .cons (OpS.V (.ptr 3 0) rfl) ?_
      refine .cons (OpS.V (.d (.agg ([.v (.bool s1), lr 3 (xs1.take 3)]))) rfl) ?_
      refine .cons (OpS.V (.d (.agg ([.v (.bool s3), lr 2 (xs3.take 2)]))) rfl) ?_
      refine .cons (OpS.C0 (aMul (iszr 3 s1 (xs1.take 3)) (iszr 2 s3 (xs3.take 2)) (M := 5) (by decide) (by decide) (by decide)) rfl rfl rfl) ?_
      refine .cons (OpS.V (.ptr 3 2) rfl) ?_
      refine .cons (OpS.V (.d (.agg ([.v (.bool t1), lr 3 (ys1.take 3)]))) rfl) ?_
      refine .cons (OpS.V (.d (.agg ([.v (.bool s3), lr 2 (xs3.take 2)]))) rfl) ?_
      refine .cons (OpS.C0 (aMul (iszr 3 t1 (ys1.take 3)) (iszr 2 s3 (xs3.take 2)) (M := 5) (by decide) (by decide) (by decide)) rfl rfl rfl) ?_
      refine .cons (OpS.V (.d (.agg (zn 5 ((zv s1 (val (xs1.take 3))) * (zv s3 (val (xs3.take 2)))) ++ zn 5 ((zv t1 (val (ys1.take 3))) * (zv s3 (val (xs3.take 2))))))) rfl) ?_
      refine .cons (OpS.N (.box 27 ([.v (.bool false), .v (.slice none 0 0), .v (.bool false), .v (.slice none 0 0)])) rfl 7 rfl rfl) ?_
      refine .nil ?_
      refine mS hTT 7 (.box 27 (zn 5 ((zv s1 (val (xs1.take 3))) * (zv s3 (val (xs3.take 2)))) ++ zn 5 ((zv t1 (val (ys1.take 3))) * (zv s3 (val (xs3.take 2)))))) rfl ?_
      refine mNil ?_
      refine tN ?_
      refine cSeq ?_
      refine cSeq ?_
      refine cDrawK hTT 32 (by kernel_rfl) (by kernel_rfl) (by kernel_rfl) ?_
      refine .cons (OpS.V (.d (.agg ([.v (.bool s1), lr 3 (xs1.take 3)] ++ [.v (.bool t1), lr 3 (ys1.take 3)]))) rfl) ?_
      refine .cons (OpS.V (.d (.agg (zn 5 ((zv s1 (val (xs1.take 3))) * (zv s3 (val (xs3.take 2)))) ++ zn 5 ((zv t1 (val (ys1.take 3))) * (zv s3 (val (xs3.take 2))))))) rfl) ?_
      refine .cons (OpS.C0 (aTCmp (⟨s1, (xs1.take 3), t1, (ys1.take 3), fun _ _ _ h => h, rfl, rfl⟩ : IsT ([.v (.bool s1), lr 3 (xs1.take 3)] ++ [.v (.bool t1), lr 3 (ys1.take 3)]) 3 (zv s1 (val (xs1.take 3))) (zv t1 (val (ys1.take 3)))) (ist_zz 5 ((zv s1 (val (xs1.take 3))) * (zv s3 (val (xs3.take 2)))) ((zv t1 (val (ys1.take 3))) * (zv s3 (val (xs3.take 2))))) (by decide) (by decide)) rfl rfl rfl) ?_
      refine .cons (OpS.V (.d (.one (.v (.bool false)))) (evb (bne_eq_false_iff_eq.2 (cmpQ_eq (mkR_scale hd hm).symm)))) ?_
      refine .cons (OpS.V _ rfl) ?_
      refine .cons (OpS.V (.d (.agg ([.v (.bool s1), lr 3 (xs1.take 3)] ++ [.v (.bool t1), lr 3 (ys1.take 3)]))) rfl) ?_
      refine .cons (OpS.V (.d (.agg ([.v (.bool s2), lr 3 (xs2.take 3)] ++ [.v (.bool t2), lr 3 (ys2.take 3)]))) rfl) ?_
      refine .cons (OpS.C0 (aTAdd (⟨s1, (xs1.take 3), t1, (ys1.take 3), fun _ _ _ h => h, rfl, rfl⟩ : IsT ([.v (.bool s1), lr 3 (xs1.take 3)] ++ [.v (.bool t1), lr 3 (ys1.take 3)]) 3 (zv s1 (val (xs1.take 3))) (zv t1 (val (ys1.take 3)))) (⟨s2, (xs2.take 3), t2, (ys2.take 3), fun _ _ _ h => h, rfl, rfl⟩ : IsT ([.v (.bool s2), lr 3 (xs2.take 3)] ++ [.v (.bool t2), lr 3 (ys2.take 3)]) 3 (zv s2 (val (xs2.take 3))) (zv t2 (val (ys2.take 3)))) (M := 10) (by decide) (by decide)) rfl rfl rfl) ?_
      refine .cons (OpS.V (.d (.agg (zn 5 ((zv s1 (val (xs1.take 3))) * (zv s3 (val (xs3.take 2)))) ++ zn 5 ((zv t1 (val (ys1.take 3))) * (zv s3 (val (xs3.take 2))))))) rfl) ?_
      refine .cons (OpS.V (.d (.agg ([.v (.bool s2), lr 3 (xs2.take 3)] ++ [.v (.bool t2), lr 3 (ys2.take 3)]))) rfl) ?_
      refine .cons (OpS.C0 (aTAdd (ist_zz 5 ((zv s1 (val (xs1.take 3))) * (zv s3 (val (xs3.take 2)))) ((zv t1 (val (ys1.take 3))) * (zv s3 (val (xs3.take 2))))) (⟨s2, (xs2.take 3), t2, (ys2.take 3), fun _ _ _ h => h, rfl, rfl⟩ : IsT ([.v (.bool s2), lr 3 (xs2.take 3)] ++ [.v (.bool t2), lr 3 (ys2.take 3)]) 3 (zv s2 (val (xs2.take 3))) (zv t2 (val (ys2.take 3)))) (M := 12) (by decide) (by decide)) rfl rfl rfl) ?_
      refine .cons (OpS.C0 (aSameT (K := 10) (L := 12) (p := ((mkR (zv s1 (val (xs1.take 3))) (zv t1 (val (ys1.take 3)))) + (mkR (zv s2 (val (xs2.take 3))) (zv t2 (val (ys2.take 3)))))) (q := ((mkR ((zv s1 (val (xs1.take 3))) * (zv s3 (val (xs3.take 2)))) ((zv t1 (val (ys1.take 3))) * (zv s3 (val (xs3.take 2))))) + (mkR (zv s2 (val (xs2.take 3))) (zv t2 (val (ys2.take 3)))))) (by rw [(mkR_scale hd hm)]) (by decide) (by decide)) rfl rfl rfl) ?_
      refine .cons (OpS.V (.d (.one (.v (.bool false)))) rfl) ?_
      refine .cons (OpS.V _ rfl) ?_
      refine .cons (OpS.V _ rfl) ?_
      refine .cons (OpS.V (.d (.agg ([.v (.bool s2), lr 3 (xs2.take 3)] ++ [.v (.bool t2), lr 3 (ys2.take 3)]))) rfl) ?_
      refine .cons (OpS.V (.d (.agg ([.v (.bool s1), lr 3 (xs1.take 3)] ++ [.v (.bool t1), lr 3 (ys1.take 3)]))) rfl) ?_
      refine .cons (OpS.C0 (aTMul (⟨s2, (xs2.take 3), t2, (ys2.take 3), fun _ _ _ h => h, rfl, rfl⟩ : IsT ([.v (.bool s2), lr 3 (xs2.take 3)] ++ [.v (.bool t2), lr 3 (ys2.take 3)]) 3 (zv s2 (val (xs2.take 3))) (zv t2 (val (ys2.take 3)))) (⟨s1, (xs1.take 3), t1, (ys1.take 3), fun _ _ _ h => h, rfl, rfl⟩ : IsT ([.v (.bool s1), lr 3 (xs1.take 3)] ++ [.v (.bool t1), lr 3 (ys1.take 3)]) 3 (zv s1 (val (xs1.take 3))) (zv t1 (val (ys1.take 3)))) (M := 10) (by decide) (by decide)) rfl rfl rfl) ?_
      refine .cons (OpS.V (.d (.agg ([.v (.bool s2), lr 3 (xs2.take 3)] ++ [.v (.bool t2), lr 3 (ys2.take 3)]))) rfl) ?_
      refine .cons (OpS.V (.d (.agg (zn 5 ((zv s1 (val (xs1.take 3))) * (zv s3 (val (xs3.take 2)))) ++ zn 5 ((zv t1 (val (ys1.take 3))) * (zv s3 (val (xs3.take 2))))))) rfl) ?_
      refine .cons (OpS.C0 (aTMul (⟨s2, (xs2.take 3), t2, (ys2.take 3), fun _ _ _ h => h, rfl, rfl⟩ : IsT ([.v (.bool s2), lr 3 (xs2.take 3)] ++ [.v (.bool t2), lr 3 (ys2.take 3)]) 3 (zv s2 (val (xs2.take 3))) (zv t2 (val (ys2.take 3)))) (ist_zz 5 ((zv s1 (val (xs1.take 3))) * (zv s3 (val (xs3.take 2)))) ((zv t1 (val (ys1.take 3))) * (zv s3 (val (xs3.take 2))))) (M := 12) (by decide) (by decide)) rfl rfl rfl) ?_
      refine .cons (OpS.C0 (aSameT (K := 10) (L := 12) (p := ((mkR (zv s2 (val (xs2.take 3))) (zv t2 (val (ys2.take 3)))) * (mkR (zv s1 (val (xs1.take 3))) (zv t1 (val (ys1.take 3)))))) (q := ((mkR (zv s2 (val (xs2.take 3))) (zv t2 (val (ys2.take 3)))) * (mkR ((zv s1 (val (xs1.take 3))) * (zv s3 (val (xs3.take 2)))) ((zv t1 (val (ys1.take 3))) * (zv s3 (val (xs3.take 2))))))) (by rw [(mkR_scale hd hm)]) (by decide) (by decide)) rfl rfl rfl) ?_
      refine .cons (OpS.V (.d (.one (.v (.bool false)))) rfl) ?_
      refine .cons (OpS.V _ rfl) ?_
      refine .cons (OpS.V _ rfl) ?_
      refine .cons (OpS.V (.d (.agg ([.v (.bool s1), lr 3 (xs1.take 3)] ++ [.v (.bool t1), lr 3 (ys1.take 3)]))) rfl) ?_
      refine .cons (OpS.C0 (aTFloor (⟨s1, (xs1.take 3), t1, (ys1.take 3), fun _ _ _ h => h, rfl, rfl⟩ : IsT ([.v (.bool s1), lr 3 (xs1.take 3)] ++ [.v (.bool t1), lr 3 (ys1.take 3)]) 3 (zv s1 (val (xs1.take 3))) (zv t1 (val (ys1.take 3)))) (M := 5) (by decide) (by decide)) rfl rfl rfl) ?_
      refine .cons (OpS.V (.d (.agg (zn 5 ((zv s1 (val (xs1.take 3))) * (zv s3 (val (xs3.take 2)))) ++ zn 5 ((zv t1 (val (ys1.take 3))) * (zv s3 (val (xs3.take 2))))))) rfl) ?_
      refine .cons (OpS.C0 (aTFloor (ist_zz 5 ((zv s1 (val (xs1.take 3))) * (zv s3 (val (xs3.take 2)))) ((zv t1 (val (ys1.take 3))) * (zv s3 (val (xs3.take 2))))) (M := 7) (by decide) (by decide)) rfl rfl rfl) ?_
      refine .cons (OpS.C0 (aSameZ (K := 5) (L := 7) (x := (Rat.num (mkR (zv s1 (val (xs1.take 3))) (zv t1 (val (ys1.take 3)))) / (Rat.den (mkR (zv s1 (val (xs1.take 3))) (zv t1 (val (ys1.take 3)))) : Int))) (y := (Rat.num (mkR ((zv s1 (val (xs1.take 3))) * (zv s3 (val (xs3.take 2)))) ((zv t1 (val (ys1.take 3))) * (zv s3 (val (xs3.take 2))))) / (Rat.den (mkR ((zv s1 (val (xs1.take 3))) * (zv s3 (val (xs3.take 2)))) ((zv t1 (val (ys1.take 3))) * (zv s3 (val (xs3.take 2))))) : Int))) (by rw [(mkR_scale hd hm)]) (by decide) (by decide)) rfl rfl rfl) ?_
      refine .cons (OpS.V (.d (.one (.v (.bool false)))) rfl) ?_
      refine .cons (OpS.V _ rfl) ?_
      refine .nil ?_
      refine mNil ?_
      refine tN ?_
      refine cF rfl ?_
      refine cSkip ?_
      refine tN ?_
      refine cSeq ?_
      refine cReg ?_
      refine mV hTT (.ptr 3 0) rfl ?_
      refine mV hTT (.d (.agg ([.v (.bool s1), lr 3 (xs1.take 3)]))) rfl ?_
      refine mV hTT (.ptr 3 2) rfl ?_
      refine mV hTT (.d (.agg ([.v (.bool t1), lr 3 (ys1.take 3)]))) rfl ?_
      refine mC0 (aTMake (iszr 3 s1 (xs1.take 3)) (iszr 3 t1 (ys1.take 3)) hd (M := 4) (by decide) (by decide)) rfl rfl rfl ?_
      refine mV hTT _ rfl ?_
      refine mV hTT _ rfl ?_
      refine mV hTT _ rfl ?_
      refine mN hTT (.box 27 ([.v (.bool false), .v (.slice none 0 0), .v (.bool false), .v (.slice none 0 0)])) rfl rfl rfl ?_
      refine mS hTT 8 (.box 27 (tn 4 (Rat.divInt (zv s1 (val (xs1.take 3))) (zv t1 (val (ys1.take 3)))))) rfl ?_
      refine mV hTT _ rfl ?_
      refine mNil ?_
      refine tN ?_
      refine cSeq ?_
      refine cReg ?_
      refine mV hTT (.ptr 7 0) rfl ?_
      refine mV hTT (.d (.agg (zn 5 ((zv s1 (val (xs1.take 3))) * (zv s3 (val (xs3.take 2))))))) rfl ?_
      refine mV hTT (.ptr 7 2) rfl ?_
      refine mV hTT (.d (.agg (zn 5 ((zv t1 (val (ys1.take 3))) * (zv s3 (val (xs3.take 2))))))) rfl ?_
      refine mC0 (aTMake (isz 5 ((zv s1 (val (xs1.take 3))) * (zv s3 (val (xs3.take 2))))) (isz 5 ((zv t1 (val (ys1.take 3))) * (zv s3 (val (xs3.take 2))))) (Int.mul_ne_zero hd hm) (M := 6) (by decide) (by decide)) rfl rfl rfl ?_
      refine mV hTT _ rfl ?_
      refine mV hTT _ rfl ?_
      refine mV hTT _ rfl ?_
      refine mN hTT (.box 27 ([.v (.bool false), .v (.slice none 0 0), .v (.bool false), .v (.slice none 0 0)])) rfl rfl rfl ?_
      refine mS hTT 10 (.box 27 (tn 6 (Rat.divInt ((zv s1 (val (xs1.take 3))) * (zv s3 (val (xs3.take 2)))) ((zv t1 (val (ys1.take 3))) * (zv s3 (val (xs3.take 2))))))) rfl ?_
      refine mV hTT _ rfl ?_
      refine mNil ?_
      refine tN ?_
      refine cSeq ?_
      refine cReg ?_
      refine mV hTT _ rfl ?_
      refine mV hTT (.d (.one (.v (.bool true)))) rfl ?_
      refine mV hTT _ rfl ?_
      refine mV hTT _ rfl ?_
      refine mV hTT (.d (.one (.v (.bool true)))) rfl ?_
      refine mV hTT _ rfl ?_
      refine mV hTT _ rfl ?_
      refine mV hTT (.d (.agg (tn 4 (Rat.divInt (zv s1 (val (xs1.take 3))) (zv t1 (val (ys1.take 3))))))) rfl ?_
      refine mV hTT (.d (.agg (tn 6 (Rat.divInt ((zv s1 (val (xs1.take 3))) * (zv s3 (val (xs3.take 2)))) ((zv t1 (val (ys1.take 3))) * (zv s3 (val (xs3.take 2)))))))) rfl ?_
      refine mC0 (aSameT (K := 4) (L := 6) (p := (Rat.divInt (zv s1 (val (xs1.take 3))) (zv t1 (val (ys1.take 3))))) (q := (Rat.divInt ((zv s1 (val (xs1.take 3))) * (zv s3 (val (xs3.take 2)))) ((zv t1 (val (ys1.take 3))) * (zv s3 (val (xs3.take 2)))))) (by rw [← mkR_ne hd, ← mkR_ne (Int.mul_ne_zero hd hm), (mkR_scale hd hm)]) (by decide) (by decide)) rfl rfl rfl ?_
      refine mV hTT _ rfl ?_
      refine mV hTT _ rfl ?_
      refine mV hTT (.ptr 8 2) rfl ?_
      refine mV hTT (.d (.agg (zn 4 (Rat.den (Rat.divInt (zv s1 (val (xs1.take 3))) (zv t1 (val (ys1.take 3)))) : Int)))) rfl ?_
      refine mC0 (aSign (isn 4 (Rat.den (Rat.divInt (zv s1 (val (xs1.take 3))) (zv t1 (val (ys1.take 3)))) : Int))) rfl rfl rfl ?_
      refine mV hTT (.d (.one (.v (.bool true)))) (evb (decide_eq_true (sgn_den _))) ?_
      refine mV hTT _ rfl ?_
      refine mV hTT _ rfl ?_
      refine mV hTT (.ptr 8 0) rfl ?_
      refine mV hTT (.d (.agg (zn 4 (Rat.num (Rat.divInt (zv s1 (val (xs1.take 3))) (zv t1 (val (ys1.take 3)))))))) rfl ?_
      refine mV hTT (.ptr 8 2) rfl ?_
      refine mV hTT (.d (.agg (zn 4 (Rat.den (Rat.divInt (zv s1 (val (xs1.take 3))) (zv t1 (val (ys1.take 3)))) : Int)))) rfl ?_
      refine mB hTT (.d (.one (.row 2 2 (fun i' j' => ((zn 4 (Rat.num (Rat.divInt (zv s1 (val (xs1.take 3))) (zv t1 (val (ys1.take 3))))) ++ zn 4 (Rat.den (Rat.divInt (zv s1 (val (xs1.take 3))) (zv t1 (val (ys1.take 3)))) : Int))[i' * 2 + j']?).getD (.v undef))))) rfl ?_
      refine mC0 (aGcd (show IsP _ 4 2 (lin (Rat.num (Rat.divInt (zv s1 (val (xs1.take 3))) (zv t1 (val (ys1.take 3))))) (Rat.den (Rat.divInt (zv s1 (val (xs1.take 3))) (zv t1 (val (ys1.take 3)))) : Int)) from isp2 (M := 4) (N := 4) (z := Rat.num (Rat.divInt (zv s1 (val (xs1.take 3))) (zv t1 (val (ys1.take 3))))) (y := (Rat.den (Rat.divInt (zv s1 (val (xs1.take 3))) (zv t1 (val (ys1.take 3)))) : Int)) (Nat.le_refl _) (Nat.le_refl _)) (by decide) (by decide)) rfl rfl rfl ?_
      refine mC0 (aOf (n := 1) (by decide) (by decide)) rfl rfl rfl ?_
      refine mC0 (aCmp (isz 4 ((gcdN (lin (Rat.num (Rat.divInt (zv s1 (val (xs1.take 3))) (zv t1 (val (ys1.take 3))))) (Rat.den (Rat.divInt (zv s1 (val (xs1.take 3))) (zv t1 (val (ys1.take 3)))) : Int)) 2) : Int)) (isz 2 1) (by decide) (by decide)) rfl rfl rfl ?_
      refine mV hTT (.d (.one (.v (.bool true)))) (evb (by rw [gcd_red]; rfl)) ?_
      refine mV hTT _ rfl ?_
      refine mV hTT _ rfl ?_
      refine mC0 (aWakes4) rfl rfl rfl ?_
      refine mV hTT _ rfl ?_
      refine mV hTT _ rfl ?_
      refine mNil ?_
      refine tN ?_
      refine cRet ?_
      exact rQ rfl (AV.le.rfl)

set_option maxRecDepth 100000 in
set_option maxHeartbeats 4000000 in
theorem aRatioSums {L1 : Nat} {s1 t1 : Bool} {xs1 ys1 : List Nat} {L2 : Nat} {s2 t2 : Bool} {xs2 ys2 : List Nat} (hL1 : L1 ≤ 9223372036854775807) (hL2 : L2 ≤ 9223372036854775807) : ACall Try.prog 9 [.agg (tan L1 s1 xs1 t1 ys1), .agg (tan L2 s2 xs2 t2 ys2)] (.d (.one (.v (.bool true)))) := by
  refine acallN hTT 134 [.tmp 4] Try.func9 rfl rfl rfl rfl rfl ?_
  refine cSeq ?_
  refine cReg ?_
  refine mN hTT (.box 27 ([.v (.bool s1), lr L1 xs1] ++ [.v (.bool t1), lr L1 ys1])) rfl rfl rfl ?_
  refine mN hTT (.box 27 ([.v (.bool s2), lr L2 xs2] ++ [.v (.bool t2), lr L2 ys2])) rfl rfl rfl ?_
  refine mV hTT _ rfl ?_
  refine mNil ?_
  refine tN ?_
  refine cSeq ?_
  refine cReg ?_
  refine mV hTT (.d (.agg ([.v (.bool s1), lr L1 xs1] ++ [.v (.bool t1), lr L1 ys1]))) rfl ?_
  refine mC0 (aOf4 (K := L1) (k := 5) (M := 64) (s := s1) (t := t1) (xs := xs1) (ys := ys1) (by decide) (by decide) (by omega)) rfl rfl rfl ?_
  refine mV hTT _ rfl ?_
  refine mV hTT _ rfl ?_
  refine mV hTT _ rfl ?_
  refine mN hTT (.box 40 ([.v (.slice none 0 0), .v (.bool false), .v (.slice none 0 0), .v (.bool false)])) rfl rfl rfl ?_
  refine mS hTT 2 (.box 27 ([.v (.bool s1), lr 5 (xs1.take 5)] ++ [.v (.bool t1), lr 5 (ys1.take 5)])) rfl ?_
  refine mS hTT 5 (.box 40 (qn 64 (mkR (zv s1 (val (xs1.take 5))) (zv t1 (val (ys1.take 5)))))) rfl ?_
  refine mNil ?_
  refine tN ?_
  refine cSeq ?_
  refine cReg ?_
  refine mV hTT (.d (.agg ([.v (.bool s2), lr L2 xs2] ++ [.v (.bool t2), lr L2 ys2]))) rfl ?_
  refine mC0 (aOf4 (K := L2) (k := 5) (M := 64) (s := s2) (t := t2) (xs := xs2) (ys := ys2) (by decide) (by decide) (by omega)) rfl rfl rfl ?_
  refine mV hTT _ rfl ?_
  refine mV hTT _ rfl ?_
  refine mV hTT _ rfl ?_
  refine mN hTT (.box 40 ([.v (.slice none 0 0), .v (.bool false), .v (.slice none 0 0), .v (.bool false)])) rfl rfl rfl ?_
  refine mS hTT 3 (.box 27 ([.v (.bool s2), lr 5 (xs2.take 5)] ++ [.v (.bool t2), lr 5 (ys2.take 5)])) rfl ?_
  refine mS hTT 6 (.box 40 (qn 64 (mkR (zv s2 (val (xs2.take 5))) (zv t2 (val (ys2.take 5)))))) rfl ?_
  refine mNil ?_
  refine tN ?_
  refine cSeq ?_
  refine cDrawK hTT 6 (by kernel_rfl) (by kernel_rfl) (by kernel_rfl) ?_
  refine .cons (OpS.V (.d (.agg ([.v (.bool s1), lr 5 (xs1.take 5)] ++ [.v (.bool t1), lr 5 (ys1.take 5)]))) rfl) ?_
  refine .cons (OpS.C0 (aCopyRat (K := 5) (s := s1) (t := t1) (xs := (xs1.take 5)) (ys := (ys1.take 5)) (by decide)) rfl rfl rfl) ?_
  refine .cons (OpS.V (.d (.agg ([.v (.bool s2), lr 5 (xs2.take 5)] ++ [.v (.bool t2), lr 5 (ys2.take 5)]))) rfl) ?_
  refine .cons (OpS.C0 (aCopyRat (K := 5) (s := s2) (t := t2) (xs := (xs2.take 5)) (ys := (ys2.take 5)) (by decide)) rfl rfl rfl) ?_
  refine .cons (OpS.N (.box 27 ([.v (.bool false), .v (.slice none 0 0), .v (.bool false), .v (.slice none 0 0)])) rfl 7 rfl rfl) ?_
  refine .cons (OpS.N (.box 27 ([.v (.bool false), .v (.slice none 0 0), .v (.bool false), .v (.slice none 0 0)])) rfl 8 rfl rfl) ?_
  refine .nil ?_
  refine mS hTT 7 (.box 27 ([.v (.bool s1), lr 5 (xs1.take 5)] ++ [.v (.bool t1), lr 5 (ys1.take 5)])) rfl ?_
  refine mS hTT 8 (.box 27 ([.v (.bool s2), lr 5 (xs2.take 5)] ++ [.v (.bool t2), lr 5 (ys2.take 5)])) rfl ?_
  refine mNil ?_
  refine tN ?_
  refine cSeq ?_
  refine cSeq ?_
  refine cDrawK hTT 55 (by kernel_rfl) (by kernel_rfl) (by kernel_rfl) ?_
  refine .cons (OpS.V (.d (.agg (qn 64 (mkR (zv s1 (val (xs1.take 5))) (zv t1 (val (ys1.take 5))))))) rfl) ?_
  refine .cons (OpS.V (.d (.agg (qn 64 (mkR (zv s2 (val (xs2.take 5))) (zv t2 (val (ys2.take 5))))))) rfl) ?_
  refine .cons (OpS.C0 (aRAddR (isq 64 (mkR (zv s1 (val (xs1.take 5))) (zv t1 (val (ys1.take 5))))) (isq 64 (mkR (zv s2 (val (xs2.take 5))) (zv t2 (val (ys2.take 5))))) (M := 129) (by decide) (by decide)) rfl rfl rfl) ?_
  refine .cons (OpS.V (.d (.agg ([.v (.bool s1), lr 5 (xs1.take 5)] ++ [.v (.bool t1), lr 5 (ys1.take 5)]))) rfl) ?_
  refine .cons (OpS.V (.d (.agg ([.v (.bool s2), lr 5 (xs2.take 5)] ++ [.v (.bool t2), lr 5 (ys2.take 5)]))) rfl) ?_
  refine .cons (OpS.C0 (aTAdd (⟨s1, (xs1.take 5), t1, (ys1.take 5), fun _ _ _ h => h, rfl, rfl⟩ : IsT ([.v (.bool s1), lr 5 (xs1.take 5)] ++ [.v (.bool t1), lr 5 (ys1.take 5)]) 5 (zv s1 (val (xs1.take 5))) (zv t1 (val (ys1.take 5)))) (⟨s2, (xs2.take 5), t2, (ys2.take 5), fun _ _ _ h => h, rfl, rfl⟩ : IsT ([.v (.bool s2), lr 5 (xs2.take 5)] ++ [.v (.bool t2), lr 5 (ys2.take 5)]) 5 (zv s2 (val (xs2.take 5))) (zv t2 (val (ys2.take 5)))) (M := 14) (by decide) (by decide)) rfl rfl rfl) ?_
  refine .cons (OpS.C0 (aIs4 (isq 129 ((mkR (zv s1 (val (xs1.take 5))) (zv t1 (val (ys1.take 5)))) + (mkR (zv s2 (val (xs2.take 5))) (zv t2 (val (ys2.take 5)))))) (istn 14 ((mkR (zv s1 (val (xs1.take 5))) (zv t1 (val (ys1.take 5)))) + (mkR (zv s2 (val (xs2.take 5))) (zv t2 (val (ys2.take 5)))))) (by decide) (by decide)) rfl rfl rfl) ?_
  refine .cons (OpS.V (.d (.one (.v (.bool false)))) rfl) ?_
  refine .cons (OpS.V _ rfl) ?_
  refine .cons (OpS.V (.d (.agg (qn 64 (mkR (zv s1 (val (xs1.take 5))) (zv t1 (val (ys1.take 5))))))) rfl) ?_
  refine .cons (OpS.V (.d (.agg (qn 64 (mkR (zv s2 (val (xs2.take 5))) (zv t2 (val (ys2.take 5))))))) rfl) ?_
  refine .cons (OpS.C0 (aRSubR (isq 64 (mkR (zv s1 (val (xs1.take 5))) (zv t1 (val (ys1.take 5))))) (isq 64 (mkR (zv s2 (val (xs2.take 5))) (zv t2 (val (ys2.take 5))))) (M := 129) (by decide) (by decide)) rfl rfl rfl) ?_
  refine .cons (OpS.V (.d (.agg ([.v (.bool s1), lr 5 (xs1.take 5)] ++ [.v (.bool t1), lr 5 (ys1.take 5)]))) rfl) ?_
  refine .cons (OpS.V (.d (.agg ([.v (.bool s2), lr 5 (xs2.take 5)] ++ [.v (.bool t2), lr 5 (ys2.take 5)]))) rfl) ?_
  refine .cons (OpS.C0 (aTSub (⟨s1, (xs1.take 5), t1, (ys1.take 5), fun _ _ _ h => h, rfl, rfl⟩ : IsT ([.v (.bool s1), lr 5 (xs1.take 5)] ++ [.v (.bool t1), lr 5 (ys1.take 5)]) 5 (zv s1 (val (xs1.take 5))) (zv t1 (val (ys1.take 5)))) (⟨s2, (xs2.take 5), t2, (ys2.take 5), fun _ _ _ h => h, rfl, rfl⟩ : IsT ([.v (.bool s2), lr 5 (xs2.take 5)] ++ [.v (.bool t2), lr 5 (ys2.take 5)]) 5 (zv s2 (val (xs2.take 5))) (zv t2 (val (ys2.take 5)))) (M := 14) (by decide) (by decide)) rfl rfl rfl) ?_
  refine .cons (OpS.C0 (aIs4 (isq 129 ((mkR (zv s1 (val (xs1.take 5))) (zv t1 (val (ys1.take 5)))) - (mkR (zv s2 (val (xs2.take 5))) (zv t2 (val (ys2.take 5)))))) (istn 14 ((mkR (zv s1 (val (xs1.take 5))) (zv t1 (val (ys1.take 5)))) - (mkR (zv s2 (val (xs2.take 5))) (zv t2 (val (ys2.take 5)))))) (by decide) (by decide)) rfl rfl rfl) ?_
  refine .cons (OpS.V (.d (.one (.v (.bool false)))) rfl) ?_
  refine .cons (OpS.V _ rfl) ?_
  refine .cons (OpS.V _ rfl) ?_
  refine .cons (OpS.V (.d (.agg (qn 64 (mkR (zv s1 (val (xs1.take 5))) (zv t1 (val (ys1.take 5))))))) rfl) ?_
  refine .cons (OpS.V (.d (.agg (qn 64 (mkR (zv s2 (val (xs2.take 5))) (zv t2 (val (ys2.take 5))))))) rfl) ?_
  refine .cons (OpS.C0 (aRMulR (isq 64 (mkR (zv s1 (val (xs1.take 5))) (zv t1 (val (ys1.take 5))))) (isq 64 (mkR (zv s2 (val (xs2.take 5))) (zv t2 (val (ys2.take 5))))) (M := 129) (by decide) (by decide)) rfl rfl rfl) ?_
  refine .cons (OpS.V (.d (.agg ([.v (.bool s1), lr 5 (xs1.take 5)] ++ [.v (.bool t1), lr 5 (ys1.take 5)]))) rfl) ?_
  refine .cons (OpS.V (.d (.agg ([.v (.bool s2), lr 5 (xs2.take 5)] ++ [.v (.bool t2), lr 5 (ys2.take 5)]))) rfl) ?_
  refine .cons (OpS.C0 (aTMul (⟨s1, (xs1.take 5), t1, (ys1.take 5), fun _ _ _ h => h, rfl, rfl⟩ : IsT ([.v (.bool s1), lr 5 (xs1.take 5)] ++ [.v (.bool t1), lr 5 (ys1.take 5)]) 5 (zv s1 (val (xs1.take 5))) (zv t1 (val (ys1.take 5)))) (⟨s2, (xs2.take 5), t2, (ys2.take 5), fun _ _ _ h => h, rfl, rfl⟩ : IsT ([.v (.bool s2), lr 5 (xs2.take 5)] ++ [.v (.bool t2), lr 5 (ys2.take 5)]) 5 (zv s2 (val (xs2.take 5))) (zv t2 (val (ys2.take 5)))) (M := 14) (by decide) (by decide)) rfl rfl rfl) ?_
  refine .cons (OpS.C0 (aIs4 (isq 129 ((mkR (zv s1 (val (xs1.take 5))) (zv t1 (val (ys1.take 5)))) * (mkR (zv s2 (val (xs2.take 5))) (zv t2 (val (ys2.take 5)))))) (istn 14 ((mkR (zv s1 (val (xs1.take 5))) (zv t1 (val (ys1.take 5)))) * (mkR (zv s2 (val (xs2.take 5))) (zv t2 (val (ys2.take 5)))))) (by decide) (by decide)) rfl rfl rfl) ?_
  refine .cons (OpS.V (.d (.one (.v (.bool false)))) rfl) ?_
  refine .cons (OpS.V _ rfl) ?_
  refine .cons (OpS.V _ rfl) ?_
  refine .cons (OpS.V (.d (.agg (qn 64 (mkR (zv s1 (val (xs1.take 5))) (zv t1 (val (ys1.take 5))))))) rfl) ?_
  refine .cons (OpS.C0 (aRNegR (isq 64 (mkR (zv s1 (val (xs1.take 5))) (zv t1 (val (ys1.take 5))))) (by decide)) rfl rfl rfl) ?_
  refine .cons (OpS.V (.d (.agg ([.v (.bool s1), lr 5 (xs1.take 5)] ++ [.v (.bool t1), lr 5 (ys1.take 5)]))) rfl) ?_
  refine .cons (OpS.C0 (aTNeg (⟨s1, (xs1.take 5), t1, (ys1.take 5), fun _ _ _ h => h, rfl, rfl⟩ : IsT ([.v (.bool s1), lr 5 (xs1.take 5)] ++ [.v (.bool t1), lr 5 (ys1.take 5)]) 5 (zv s1 (val (xs1.take 5))) (zv t1 (val (ys1.take 5)))) (M := 6) (by decide) (by decide)) rfl rfl rfl) ?_
  refine .cons (OpS.C0 (aIs4 (isq 64 (-(mkR (zv s1 (val (xs1.take 5))) (zv t1 (val (ys1.take 5)))))) (istn 6 (-(mkR (zv s1 (val (xs1.take 5))) (zv t1 (val (ys1.take 5)))))) (by decide) (by decide)) rfl rfl rfl) ?_
  refine .cons (OpS.V (.d (.one (.v (.bool false)))) rfl) ?_
  refine .cons (OpS.V _ rfl) ?_
  refine .cons (OpS.V _ rfl) ?_
  refine .cons (OpS.V (.d (.agg (qn 64 (mkR (zv s1 (val (xs1.take 5))) (zv t1 (val (ys1.take 5))))))) rfl) ?_
  refine .cons (OpS.V (.d (.agg (qn 64 (mkR (zv s2 (val (xs2.take 5))) (zv t2 (val (ys2.take 5))))))) rfl) ?_
  refine .cons (OpS.C0 (aRHalf (isq 64 (mkR (zv s1 (val (xs1.take 5))) (zv t1 (val (ys1.take 5))))) (isq 64 (mkR (zv s2 (val (xs2.take 5))) (zv t2 (val (ys2.take 5))))) (M := 328) (by decide) (by decide)) rfl rfl rfl) ?_
  refine .cons (OpS.V (.d (.agg ([.v (.bool s1), lr 5 (xs1.take 5)] ++ [.v (.bool t1), lr 5 (ys1.take 5)]))) rfl) ?_
  refine .cons (OpS.V (.d (.agg ([.v (.bool s2), lr 5 (xs2.take 5)] ++ [.v (.bool t2), lr 5 (ys2.take 5)]))) rfl) ?_
  refine .cons (OpS.C0 (aTMid (⟨s1, (xs1.take 5), t1, (ys1.take 5), fun _ _ _ h => h, rfl, rfl⟩ : IsT ([.v (.bool s1), lr 5 (xs1.take 5)] ++ [.v (.bool t1), lr 5 (ys1.take 5)]) 5 (zv s1 (val (xs1.take 5))) (zv t1 (val (ys1.take 5)))) (⟨s2, (xs2.take 5), t2, (ys2.take 5), fun _ _ _ h => h, rfl, rfl⟩ : IsT ([.v (.bool s2), lr 5 (xs2.take 5)] ++ [.v (.bool t2), lr 5 (ys2.take 5)]) 5 (zv s2 (val (xs2.take 5))) (zv t2 (val (ys2.take 5)))) (M := 16) (by decide) (by decide)) rfl rfl rfl) ?_
  refine .cons (OpS.C0 (aIs4 (isq 328 (((mkR (zv s1 (val (xs1.take 5))) (zv t1 (val (ys1.take 5)))) + (mkR (zv s2 (val (xs2.take 5))) (zv t2 (val (ys2.take 5))))) / 2)) (istn 16 (((mkR (zv s1 (val (xs1.take 5))) (zv t1 (val (ys1.take 5)))) + (mkR (zv s2 (val (xs2.take 5))) (zv t2 (val (ys2.take 5))))) / 2)) (by decide) (by decide)) rfl rfl rfl) ?_
  refine .cons (OpS.V (.d (.one (.v (.bool false)))) rfl) ?_
  refine .cons (OpS.V _ rfl) ?_
  refine .cons (OpS.V _ rfl) ?_
  refine .cons (OpS.V (.d (.agg ([.v (.bool s1), lr 5 (xs1.take 5)] ++ [.v (.bool t1), lr 5 (ys1.take 5)]))) rfl) ?_
  refine .cons (OpS.V (.d (.agg ([.v (.bool s2), lr 5 (xs2.take 5)] ++ [.v (.bool t2), lr 5 (ys2.take 5)]))) rfl) ?_
  refine .cons (OpS.C0 (aTCmp (⟨s1, (xs1.take 5), t1, (ys1.take 5), fun _ _ _ h => h, rfl, rfl⟩ : IsT ([.v (.bool s1), lr 5 (xs1.take 5)] ++ [.v (.bool t1), lr 5 (ys1.take 5)]) 5 (zv s1 (val (xs1.take 5))) (zv t1 (val (ys1.take 5)))) (⟨s2, (xs2.take 5), t2, (ys2.take 5), fun _ _ _ h => h, rfl, rfl⟩ : IsT ([.v (.bool s2), lr 5 (xs2.take 5)] ++ [.v (.bool t2), lr 5 (ys2.take 5)]) 5 (zv s2 (val (xs2.take 5))) (zv t2 (val (ys2.take 5)))) (by decide) (by decide)) rfl rfl rfl) ?_
  refine .cons (OpS.V (.d (.agg (qn 64 (mkR (zv s1 (val (xs1.take 5))) (zv t1 (val (ys1.take 5))))))) rfl) ?_
  refine .cons (OpS.V (.d (.agg (qn 64 (mkR (zv s2 (val (xs2.take 5))) (zv t2 (val (ys2.take 5))))))) rfl) ?_
  refine .cons (OpS.C0 (aRCmpR (isq 64 (mkR (zv s1 (val (xs1.take 5))) (zv t1 (val (ys1.take 5))))) (isq 64 (mkR (zv s2 (val (xs2.take 5))) (zv t2 (val (ys2.take 5))))) (by decide) (by decide)) rfl rfl rfl) ?_
  refine .cons (OpS.V (.d (.one (.v (.bool false)))) (evb (bne_eq_false_iff_eq.2 rfl))) ?_
  refine .cons (OpS.V _ rfl) ?_
  refine .nil ?_
  refine mNil ?_
  refine tN ?_
  refine cF rfl ?_
  refine cSkip ?_
  refine tN ?_
  refine cSeq ?_
  by_cases hq : (mkR (zv s2 (val (xs2.take 5))) (zv t2 (val (ys2.take 5)))) = 0
  · skip
    refine cReg ?_
    refine mV hTT (.d (.agg ([.v (.bool s1), lr 5 (xs1.take 5)] ++ [.v (.bool t1), lr 5 (ys1.take 5)]))) rfl ?_
    refine mV hTT (.d (.agg ([.v (.bool s2), lr 5 (xs2.take 5)] ++ [.v (.bool t2), lr 5 (ys2.take 5)]))) rfl ?_
    refine mC0 (aTQuo0 (⟨s1, (xs1.take 5), t1, (ys1.take 5), fun _ _ _ h => h, rfl, rfl⟩ : IsT ([.v (.bool s1), lr 5 (xs1.take 5)] ++ [.v (.bool t1), lr 5 (ys1.take 5)]) 5 (zv s1 (val (xs1.take 5))) (zv t1 (val (ys1.take 5)))) (⟨s2, (xs2.take 5), t2, (ys2.take 5), fun _ _ _ h => h, rfl, rfl⟩ : IsT ([.v (.bool s2), lr 5 (xs2.take 5)] ++ [.v (.bool t2), lr 5 (ys2.take 5)]) 5 (zv s2 (val (xs2.take 5))) (zv t2 (val (ys2.take 5)))) hq (by decide) (by decide)) rfl rfl rfl ?_
    refine mV hTT _ rfl ?_
    refine mV hTT _ rfl ?_
    refine mV hTT _ rfl ?_
    refine mN hTT (.box 27 ([.v (.bool false), .v (.slice none 0 0), .v (.bool false), .v (.slice none 0 0)])) rfl rfl rfl ?_
    refine mS hTT 9 (.box 27 ([.v (.bool false), .v (.slice none 0 0), .v (.bool false), .v (.slice none 0 0)])) rfl ?_
    refine mV hTT _ rfl ?_
    refine mNil ?_
    refine tN ?_
    refine cSeq ?_
    refine cSeq ?_
    refine cReg ?_
    refine mV hTT (.ptr 6 0) rfl ?_
    refine mV hTT (.d (.agg (rn 64 (Rat.num (mkR (zv s2 (val (xs2.take 5))) (zv t2 (val (ys2.take 5)))))))) rfl ?_
    refine mC0 (aRZero (isr 64 (Rat.num (mkR (zv s2 (val (xs2.take 5))) (zv t2 (val (ys2.take 5))))))) rfl rfl rfl ?_
    refine mNil ?_
    refine tN ?_
    refine cView 90 (.d (.one (.v (.bool true)))) rfl (le_bool (decide_eq_true (by rw [hq]; rfl))) ?_
    refine cT rfl ?_
    refine cSeq ?_
    refine cReg ?_
    refine mV hTT _ rfl ?_
    refine mV hTT (.d (.one (.v (.bool false)))) rfl ?_
    refine mV hTT _ rfl ?_
    refine mV hTT (.ptr 9 0) rfl ?_
    refine mV hTT (.d (.agg ([.v (.bool false), .v (.slice none 0 0)]))) rfl ?_
    refine mC0 (aZero isn_nil) rfl rfl rfl ?_
    refine mView 96 (.d (.one (.v (.bool true)))) rfl (le_bool (decide_eq_true rfl)) ?_
    refine mV hTT (.d (.one (.v (.bool false)))) rfl ?_
    refine mV hTT _ rfl ?_
    refine mNil ?_
    refine tN ?_
    refine cF rfl ?_
    refine cSkip ?_
    refine tN ?_
    refine cSeq ?_
    refine cReg ?_
    refine mV hTT (.ptr 5 0) rfl ?_
    refine mV hTT (.d (.agg (rn 64 (Rat.num (mkR (zv s1 (val (xs1.take 5))) (zv t1 (val (ys1.take 5)))))))) rfl ?_
    refine mV hTT (.ptr 5 2) rfl ?_
    refine mV hTT (.d (.agg (rn 64 (Rat.den (mkR (zv s1 (val (xs1.take 5))) (zv t1 (val (ys1.take 5)))) : Int)))) rfl ?_
    refine mC0 (aRDivMod (isr 64 (Rat.num (mkR (zv s1 (val (xs1.take 5))) (zv t1 (val (ys1.take 5)))))) (isr 64 (Rat.den (mkR (zv s1 (val (xs1.take 5))) (zv t1 (val (ys1.take 5)))) : Int)) (den_pos _) (M := 130) (by decide) (by decide)) rfl rfl rfl ?_
    refine mV hTT _ rfl ?_
    refine mV hTT _ rfl ?_
    refine mV hTT _ rfl ?_
    refine mN hTT (.box 34 ([.v (.slice none 0 0), .v (.bool false)])) rfl rfl rfl ?_
    refine mN hTT (.box 34 ([.v (.slice none 0 0), .v (.bool false)])) rfl rfl rfl ?_
    refine mS hTT 11 (.box 34 (rn 130 ((Rat.num (mkR (zv s1 (val (xs1.take 5))) (zv t1 (val (ys1.take 5))))) / (Rat.den (mkR (zv s1 (val (xs1.take 5))) (zv t1 (val (ys1.take 5)))) : Int)))) rfl ?_
    refine mS hTT 12 (.box 34 (rn 130 ((Rat.num (mkR (zv s1 (val (xs1.take 5))) (zv t1 (val (ys1.take 5))))) % (Rat.den (mkR (zv s1 (val (xs1.take 5))) (zv t1 (val (ys1.take 5)))) : Int)))) rfl ?_
    refine mNil ?_
    refine tN ?_
    refine cSeq ?_
    refine cDrawK hTT 18 (by kernel_rfl) (by kernel_rfl) (by kernel_rfl) ?_
    refine .cons (OpS.V (.d (.agg (rn 130 ((Rat.num (mkR (zv s1 (val (xs1.take 5))) (zv t1 (val (ys1.take 5))))) / (Rat.den (mkR (zv s1 (val (xs1.take 5))) (zv t1 (val (ys1.take 5)))) : Int))))) rfl) ?_
    refine .cons (OpS.V (.d (.agg ([.v (.bool s1), lr 5 (xs1.take 5)] ++ [.v (.bool t1), lr 5 (ys1.take 5)]))) rfl) ?_
    refine .cons (OpS.C0 (aTFloor (⟨s1, (xs1.take 5), t1, (ys1.take 5), fun _ _ _ h => h, rfl, rfl⟩ : IsT ([.v (.bool s1), lr 5 (xs1.take 5)] ++ [.v (.bool t1), lr 5 (ys1.take 5)]) 5 (zv s1 (val (xs1.take 5))) (zv t1 (val (ys1.take 5)))) (M := 7) (by decide) (by decide)) rfl rfl rfl) ?_
    refine .cons (OpS.C0 (aRSame (IsR.eq (isr 130 ((Rat.num (mkR (zv s1 (val (xs1.take 5))) (zv t1 (val (ys1.take 5))))) / (Rat.den (mkR (zv s1 (val (xs1.take 5))) (zv t1 (val (ys1.take 5)))) : Int))) rfl) (isn 7 (Rat.num (mkR (zv s1 (val (xs1.take 5))) (zv t1 (val (ys1.take 5)))) / (Rat.den (mkR (zv s1 (val (xs1.take 5))) (zv t1 (val (ys1.take 5)))) : Int))) (by decide) (by decide)) rfl rfl rfl) ?_
    refine .cons (OpS.V _ rfl) ?_
    refine .cons (OpS.V (.d (.agg ([.v (.bool s1), lr 5 (xs1.take 5)] ++ [.v (.bool t1), lr 5 (ys1.take 5)]))) rfl) ?_
    refine .cons (OpS.V (.d (.agg ([.v (.bool s1), lr 5 (xs1.take 5)] ++ [.v (.bool t1), lr 5 (ys1.take 5)]))) rfl) ?_
    refine .cons (OpS.C0 (aSameRat (K := 5) (L := 5) (s := s1) (t := t1) (xs := (xs1.take 5)) (ys := (ys1.take 5)) (by decide) (by decide)) rfl rfl rfl) ?_
    refine .cons (OpS.V _ rfl) ?_
    refine .cons (OpS.V _ rfl) ?_
    refine .cons (OpS.V (.d (.agg ([.v (.bool s2), lr 5 (xs2.take 5)] ++ [.v (.bool t2), lr 5 (ys2.take 5)]))) rfl) ?_
    refine .cons (OpS.V (.d (.agg ([.v (.bool s2), lr 5 (xs2.take 5)] ++ [.v (.bool t2), lr 5 (ys2.take 5)]))) rfl) ?_
    refine .cons (OpS.C0 (aSameRat (K := 5) (L := 5) (s := s2) (t := t2) (xs := (xs2.take 5)) (ys := (ys2.take 5)) (by decide) (by decide)) rfl rfl rfl) ?_
    refine .cons (OpS.V _ rfl) ?_
    refine .cons (OpS.V _ rfl) ?_
    refine .cons (OpS.C0 (aWakes4) rfl rfl rfl) ?_
    refine .cons (OpS.V _ rfl) ?_
    refine .cons (OpS.V _ rfl) ?_
    refine .nil ?_
    refine mNil ?_
    refine tN ?_
    refine cRet ?_
    exact rQ rfl (AV.le.rfl)
  · skip
    refine cReg ?_
    refine mV hTT (.d (.agg ([.v (.bool s1), lr 5 (xs1.take 5)] ++ [.v (.bool t1), lr 5 (ys1.take 5)]))) rfl ?_
    refine mV hTT (.d (.agg ([.v (.bool s2), lr 5 (xs2.take 5)] ++ [.v (.bool t2), lr 5 (ys2.take 5)]))) rfl ?_
    refine mC0 (aTQuo (⟨s1, (xs1.take 5), t1, (ys1.take 5), fun _ _ _ h => h, rfl, rfl⟩ : IsT ([.v (.bool s1), lr 5 (xs1.take 5)] ++ [.v (.bool t1), lr 5 (ys1.take 5)]) 5 (zv s1 (val (xs1.take 5))) (zv t1 (val (ys1.take 5)))) (⟨s2, (xs2.take 5), t2, (ys2.take 5), fun _ _ _ h => h, rfl, rfl⟩ : IsT ([.v (.bool s2), lr 5 (xs2.take 5)] ++ [.v (.bool t2), lr 5 (ys2.take 5)]) 5 (zv s2 (val (xs2.take 5))) (zv t2 (val (ys2.take 5)))) hq (M := 14) (by decide) (by decide)) rfl rfl rfl ?_
    refine mV hTT _ rfl ?_
    refine mV hTT _ rfl ?_
    refine mV hTT _ rfl ?_
    refine mN hTT (.box 27 ([.v (.bool false), .v (.slice none 0 0), .v (.bool false), .v (.slice none 0 0)])) rfl rfl rfl ?_
    refine mS hTT 9 (.box 27 (tn 14 ((mkR (zv s1 (val (xs1.take 5))) (zv t1 (val (ys1.take 5)))) / (mkR (zv s2 (val (xs2.take 5))) (zv t2 (val (ys2.take 5))))))) rfl ?_
    refine mV hTT _ rfl ?_
    refine mNil ?_
    refine tN ?_
    refine cSeq ?_
    refine cSeq ?_
    refine cReg ?_
    refine mV hTT (.ptr 6 0) rfl ?_
    refine mV hTT (.d (.agg (rn 64 (Rat.num (mkR (zv s2 (val (xs2.take 5))) (zv t2 (val (ys2.take 5)))))))) rfl ?_
    refine mC0 (aRZero (isr 64 (Rat.num (mkR (zv s2 (val (xs2.take 5))) (zv t2 (val (ys2.take 5))))))) rfl rfl rfl ?_
    refine mNil ?_
    refine tN ?_
    refine cView 90 (.d (.one (.v (.bool false)))) rfl (le_bool (decide_eq_false (num_ne hq))) ?_
    refine cF rfl ?_
    refine cSeq ?_
    refine cDrawK hTT 10 (by kernel_rfl) (by kernel_rfl) (by kernel_rfl) ?_
    refine .cons (OpS.V _ rfl) ?_
    refine .cons (OpS.V (.d (.one (.v (.bool false)))) rfl) ?_
    refine .cons (OpS.V _ rfl) ?_
    refine .cons (OpS.V (.d (.agg (qn 64 (mkR (zv s1 (val (xs1.take 5))) (zv t1 (val (ys1.take 5))))))) rfl) ?_
    refine .cons (OpS.V (.d (.agg (qn 64 (mkR (zv s2 (val (xs2.take 5))) (zv t2 (val (ys2.take 5))))))) rfl) ?_
    refine .cons (OpS.C0 (aRQuoR (isq 64 (mkR (zv s1 (val (xs1.take 5))) (zv t1 (val (ys1.take 5))))) (isq 64 (mkR (zv s2 (val (xs2.take 5))) (zv t2 (val (ys2.take 5))))) hq (M := 129) (by decide) (by decide)) rfl rfl rfl) ?_
    refine .cons (OpS.V (.d (.agg (tn 14 ((mkR (zv s1 (val (xs1.take 5))) (zv t1 (val (ys1.take 5)))) / (mkR (zv s2 (val (xs2.take 5))) (zv t2 (val (ys2.take 5)))))))) rfl) ?_
    refine .cons (OpS.C0 (aIs4 (isq 129 ((mkR (zv s1 (val (xs1.take 5))) (zv t1 (val (ys1.take 5)))) / (mkR (zv s2 (val (xs2.take 5))) (zv t2 (val (ys2.take 5)))))) (istn 14 ((mkR (zv s1 (val (xs1.take 5))) (zv t1 (val (ys1.take 5)))) / (mkR (zv s2 (val (xs2.take 5))) (zv t2 (val (ys2.take 5)))))) (by decide) (by decide)) rfl rfl rfl) ?_
    refine .cons (OpS.V (.d (.one (.v (.bool false)))) rfl) ?_
    refine .cons (OpS.V _ rfl) ?_
    refine .nil ?_
    refine mNil ?_
    refine tN ?_
    refine cF rfl ?_
    refine cSkip ?_
    refine tN ?_
    refine cSeq ?_
    refine cReg ?_
    refine mV hTT (.ptr 5 0) rfl ?_
    refine mV hTT (.d (.agg (rn 64 (Rat.num (mkR (zv s1 (val (xs1.take 5))) (zv t1 (val (ys1.take 5)))))))) rfl ?_
    refine mV hTT (.ptr 5 2) rfl ?_
    refine mV hTT (.d (.agg (rn 64 (Rat.den (mkR (zv s1 (val (xs1.take 5))) (zv t1 (val (ys1.take 5)))) : Int)))) rfl ?_
    refine mC0 (aRDivMod (isr 64 (Rat.num (mkR (zv s1 (val (xs1.take 5))) (zv t1 (val (ys1.take 5)))))) (isr 64 (Rat.den (mkR (zv s1 (val (xs1.take 5))) (zv t1 (val (ys1.take 5)))) : Int)) (den_pos _) (M := 130) (by decide) (by decide)) rfl rfl rfl ?_
    refine mV hTT _ rfl ?_
    refine mV hTT _ rfl ?_
    refine mV hTT _ rfl ?_
    refine mN hTT (.box 34 ([.v (.slice none 0 0), .v (.bool false)])) rfl rfl rfl ?_
    refine mN hTT (.box 34 ([.v (.slice none 0 0), .v (.bool false)])) rfl rfl rfl ?_
    refine mS hTT 11 (.box 34 (rn 130 ((Rat.num (mkR (zv s1 (val (xs1.take 5))) (zv t1 (val (ys1.take 5))))) / (Rat.den (mkR (zv s1 (val (xs1.take 5))) (zv t1 (val (ys1.take 5)))) : Int)))) rfl ?_
    refine mS hTT 12 (.box 34 (rn 130 ((Rat.num (mkR (zv s1 (val (xs1.take 5))) (zv t1 (val (ys1.take 5))))) % (Rat.den (mkR (zv s1 (val (xs1.take 5))) (zv t1 (val (ys1.take 5)))) : Int)))) rfl ?_
    refine mNil ?_
    refine tN ?_
    refine cSeq ?_
    refine cDrawK hTT 18 (by kernel_rfl) (by kernel_rfl) (by kernel_rfl) ?_
    refine .cons (OpS.V (.d (.agg (rn 130 ((Rat.num (mkR (zv s1 (val (xs1.take 5))) (zv t1 (val (ys1.take 5))))) / (Rat.den (mkR (zv s1 (val (xs1.take 5))) (zv t1 (val (ys1.take 5)))) : Int))))) rfl) ?_
    refine .cons (OpS.V (.d (.agg ([.v (.bool s1), lr 5 (xs1.take 5)] ++ [.v (.bool t1), lr 5 (ys1.take 5)]))) rfl) ?_
    refine .cons (OpS.C0 (aTFloor (⟨s1, (xs1.take 5), t1, (ys1.take 5), fun _ _ _ h => h, rfl, rfl⟩ : IsT ([.v (.bool s1), lr 5 (xs1.take 5)] ++ [.v (.bool t1), lr 5 (ys1.take 5)]) 5 (zv s1 (val (xs1.take 5))) (zv t1 (val (ys1.take 5)))) (M := 7) (by decide) (by decide)) rfl rfl rfl) ?_
    refine .cons (OpS.C0 (aRSame (IsR.eq (isr 130 ((Rat.num (mkR (zv s1 (val (xs1.take 5))) (zv t1 (val (ys1.take 5))))) / (Rat.den (mkR (zv s1 (val (xs1.take 5))) (zv t1 (val (ys1.take 5)))) : Int))) rfl) (isn 7 (Rat.num (mkR (zv s1 (val (xs1.take 5))) (zv t1 (val (ys1.take 5)))) / (Rat.den (mkR (zv s1 (val (xs1.take 5))) (zv t1 (val (ys1.take 5)))) : Int))) (by decide) (by decide)) rfl rfl rfl) ?_
    refine .cons (OpS.V _ rfl) ?_
    refine .cons (OpS.V (.d (.agg ([.v (.bool s1), lr 5 (xs1.take 5)] ++ [.v (.bool t1), lr 5 (ys1.take 5)]))) rfl) ?_
    refine .cons (OpS.V (.d (.agg ([.v (.bool s1), lr 5 (xs1.take 5)] ++ [.v (.bool t1), lr 5 (ys1.take 5)]))) rfl) ?_
    refine .cons (OpS.C0 (aSameRat (K := 5) (L := 5) (s := s1) (t := t1) (xs := (xs1.take 5)) (ys := (ys1.take 5)) (by decide) (by decide)) rfl rfl rfl) ?_
    refine .cons (OpS.V _ rfl) ?_
    refine .cons (OpS.V _ rfl) ?_
    refine .cons (OpS.V (.d (.agg ([.v (.bool s2), lr 5 (xs2.take 5)] ++ [.v (.bool t2), lr 5 (ys2.take 5)]))) rfl) ?_
    refine .cons (OpS.V (.d (.agg ([.v (.bool s2), lr 5 (xs2.take 5)] ++ [.v (.bool t2), lr 5 (ys2.take 5)]))) rfl) ?_
    refine .cons (OpS.C0 (aSameRat (K := 5) (L := 5) (s := s2) (t := t2) (xs := (xs2.take 5)) (ys := (ys2.take 5)) (by decide) (by decide)) rfl rfl rfl) ?_
    refine .cons (OpS.V _ rfl) ?_
    refine .cons (OpS.V _ rfl) ?_
    refine .cons (OpS.C0 (aWakes4) rfl rfl rfl) ?_
    refine .cons (OpS.V _ rfl) ?_
    refine .cons (OpS.V _ rfl) ?_
    refine .nil ?_
    refine mNil ?_
    refine tN ?_
    refine cRet ?_
    exact rQ rfl (AV.le.rfl)

theorem app_t {e : TypeId} {K L M n m : Nat} {f : Nat → (Bool × List Nat) × (Bool × List Nat)} {el2 : Nat → Nat → Lf} (hm : m = n + 1) (hK : K ≤ L) (hM : M ≤ L) (h0 : el2 0 0 = .v (.bool (f n).1.1) := by rfl) (h1 : el2 0 1 = lr M (f n).1.2 := by rfl) (h2 : el2 0 2 = .v (.bool (f n).2.1) := by rfl) (h3 : el2 0 3 = lr M (f n).2.2 := by rfl) : AO.le (.row e 4 (n + 1) (appEl n (tael K f) el2)) (.row e 4 m (tael L f)) := by
  refine app_el hm (fun i hi j hj B w v hv => ?_) fun j hj B w v hv => ?_
  · match j, hj with
    | 0, _ => exact hv
    | 1, _ => exact lr_mono hK _ _ _ hv
    | 2, _ => exact hv
    | 3, _ => exact lr_mono hK _ _ _ hv
  · match j, hj with
    | 0, _ => rw [h0] at hv; exact hv
    | 1, _ => rw [h1] at hv; exact lr_mono hM _ _ _ hv
    | 2, _ => rw [h2] at hv; exact hv
    | 3, _ => rw [h3] at hv; exact lr_mono hM _ _ _ hv
set_option maxRecDepth 100000 in
set_option maxHeartbeats 4000000 in
theorem aRatioAlls {L1 : Nat} {s1 t1 : Bool} {xs1 ys1 : List Nat} {L2 n : Nat} {f : Nat → (Bool × List Nat) × (Bool × List Nat)} (hL1 : L1 ≤ 9223372036854775807) (hL2 : L2 ≤ 9223372036854775807) : ACall Try.prog 5 [.agg (tan L1 s1 xs1 t1 ys1), .one (trow L2 n f)] (.d (.one (.v (.bool true)))) := by
  refine acallN hTT 63 [.tmp 4] Try.func5 rfl rfl rfl rfl rfl ?_
  refine cSeq ?_
  refine cReg ?_
  refine mN hTT (.box 27 ([.v (.bool s1), lr L1 xs1] ++ [.v (.bool t1), lr L1 ys1])) rfl rfl rfl ?_
  refine mV hTT _ rfl ?_
  refine mNil ?_
  refine tN ?_
  refine cSeq ?_
  refine cReg ?_
  refine mV hTT (.d (.agg ([.v (.bool s1), lr L1 xs1] ++ [.v (.bool t1), lr L1 ys1]))) rfl ?_
  refine mC0 (aOf4 (K := L1) (k := 3) (M := 64) (s := s1) (t := t1) (xs := xs1) (ys := ys1) (by decide) (by decide) (by omega)) rfl rfl rfl ?_
  refine mV hTT _ rfl ?_
  refine mV hTT _ rfl ?_
  refine mV hTT _ rfl ?_
  refine mN hTT (.box 40 ([.v (.slice none 0 0), .v (.bool false), .v (.slice none 0 0), .v (.bool false)])) rfl rfl rfl ?_
  refine mS hTT 2 (.box 27 ([.v (.bool s1), lr 3 (xs1.take 3)] ++ [.v (.bool t1), lr 3 (ys1.take 3)])) rfl ?_
  refine mS hTT 5 (.box 40 (qn 64 (mkR (zv s1 (val (xs1.take 3))) (zv t1 (val (ys1.take 3)))))) rfl ?_
  refine mNil ?_
  refine tN ?_
  refine cSeq ?_
  refine cDrawS hTT 6 (by kernel_rfl) (by kernel_rfl) ?_
  refine .cons (OpS.C0 (aROfI (n := 0) (by decide) (by decide)) rfl rfl rfl) (by kernel_rfl) ?_
  refine .cons (OpS.V (.d (.agg (qn 64 (mkR (zv s1 (val (xs1.take 3))) (zv t1 (val (ys1.take 3))))))) rfl) (by kernel_rfl) ?_
  refine .cons (OpS.N (.box 40 ([.v (.slice none 0 0), .v (.bool false), .v (.slice none 0 0), .v (.bool false)])) rfl 6 rfl rfl) (by kernel_rfl) ?_
  refine .cons (OpS.N (.box 40 ([.v (.slice none 0 0), .v (.bool false), .v (.slice none 0 0), .v (.bool false)])) rfl 7 rfl rfl) (by kernel_rfl) ?_
  refine .cons (OpS.S 6 (.box 40 (qn 64 ((0 : Int) : Rat))) rfl rfl) (by kernel_rfl) ?_
  refine .cons (OpS.S 7 (.box 40 (qn 64 (mkR (zv s1 (val (xs1.take 3))) (zv t1 (val (ys1.take 3)))))) rfl rfl) (by kernel_rfl) ?_
  refine .nil ?_
  refine mNil ?_
  refine tN ?_
  refine cSeq ?_
  refine cReg ?_
  refine mV hTT _ rfl ?_
  refine mNil ?_
  refine tN ?_
  refine cSeq ?_
  refine cSeq ?_
  refine AW.wk (wkNil 8 8 27 4 (fun _ _ => .v undef) rfl rfl) ?_
  refine cReg ?_
  refine mV hTT _ rfl ?_
  refine mNil ?_
  refine tN ?_
  refine cBlock ?_
  refine cLoop (ι := Nat) (fun (i : Nat) => ⟨63, [(1, .d (.one (.row 4 n (tael L2 f)))), (2, .ptr 2 0), (6, .ptr 6 0), (7, .ptr 7 0), (8, .own 8), (9, .d (.one (.v (.int .i64 ((i : Nat) : Int)))))], [(2, .box 27 ([.v (.bool s1), lr 3 (xs1.take 3)] ++ [.v (.bool t1), lr 3 (ys1.take 3)])), (6, .box 40 (qn (64 + 65 * i) (tsum (fq (fun i : Nat => (((f i).1.1, (f i).1.2.take 3), ((f i).2.1, (f i).2.2.take 3)))) i))), (7, .box 40 (qn 64 (tmax (mkR (zv s1 (val (xs1.take 3))) (zv t1 (val (ys1.take 3)))) (fq (fun i : Nat => (((f i).1.1, (f i).1.2.take 3), ((f i).2.1, (f i).2.2.take 3)))) i))), (8, .row 27 4 i (tael 3 (fun i : Nat => (((f i).1.1, (f i).1.2.take 3), ((f i).2.1, (f i).2.2.take 3)))))]⟩) (fun (i : Nat) => i ≤ 6) (fun (i : Nat) => 6 - i) 0 (Nat.zero_le _) (wk (sl := [(1, .d (.one (.row 4 n (tael L2 f)))), (2, .ptr 2 0), (6, .ptr 6 0), (7, .ptr 7 0), (8, .own 8), (9, .d (.one (.v (.int .i64 ((0 : Nat) : Int)))))]) (hp := [(2, .box 27 ([.v (.bool s1), lr 3 (xs1.take 3)] ++ [.v (.bool t1), lr 3 (ys1.take 3)])), (6, .box 40 (qn (64 + 65 * 0) (tsum (fq (fun i : Nat => (((f i).1.1, (f i).1.2.take 3), ((f i).2.1, (f i).2.2.take 3)))) 0))), (7, .box 40 (qn 64 (tmax (mkR (zv s1 (val (xs1.take 3))) (zv t1 (val (ys1.take 3)))) (fq (fun i : Nat => (((f i).1.1, (f i).1.2.take 3), ((f i).2.1, (f i).2.2.take 3)))) 0))), (8, .row 27 4 0 (tael 3 (fun i : Nat => (((f i).1.1, (f i).1.2.take 3), ((f i).2.1, (f i).2.2.take 3)))))]) rfl ⟨hs rfl, hs rfl, hs rfl, hs rfl, hs rfl, hs' rfl (le_int rfl), trivial⟩ ⟨ho rfl, ho' rfl (leo_qn (by decide) rfl), ho' rfl (leo_qn (by decide) rfl), ho' rfl (leo_row0), trivial⟩ rfl) ?_
  rintro i hI
  have hi : i ≤ 6 := hI
  show AW Try.prog _ _ ⟨63, [(1, .d (.one (.row 4 n (tael L2 f)))), (2, .ptr 2 0), (6, .ptr 6 0), (7, .ptr 7 0), (8, .own 8), (9, .d (.one (.v (.int .i64 ((i : Nat) : Int)))))], [(2, .box 27 ([.v (.bool s1), lr 3 (xs1.take 3)] ++ [.v (.bool t1), lr 3 (ys1.take 3)])), (6, .box 40 (qn (64 + 65 * i) (tsum (fq (fun i : Nat => (((f i).1.1, (f i).1.2.take 3), ((f i).2.1, (f i).2.2.take 3)))) i))), (7, .box 40 (qn 64 (tmax (mkR (zv s1 (val (xs1.take 3))) (zv t1 (val (ys1.take 3)))) (fq (fun i : Nat => (((f i).1.1, (f i).1.2.take 3), ((f i).2.1, (f i).2.2.take 3)))) i))), (8, .row 27 4 i (tael 3 (fun i : Nat => (((f i).1.1, (f i).1.2.take 3), ((f i).2.1, (f i).2.2.take 3)))))]⟩
  refine cSeq ?_
  refine cSeq ?_
  by_cases hin : i < n
  · skip
    refine cReg ?_
    refine mV hTT _ rfl ?_
    refine mV hTT _ rfl ?_
    refine mV hTT (.d (.one (.v (.int .i64 (n : Int))))) rfl ?_
    refine mV hTT (.d (.one (.v (.bool true)))) (evb (decide_eq_true (by omega))) ?_
    refine mV hTT _ rfl ?_
    refine mV hTT _ rfl ?_
    refine mV hTT (.d (.one (.v (.bool (decide (((i : Nat) : Int) < 6)))))) rfl ?_
    refine mV hTT _ rfl ?_
    refine mNil ?_
    refine tN ?_
    refine cCond rfl (fun hc1 => ?_) (fun hc1 => ?_)
    · skip
      refine cSkip ?_
      refine tN ?_
      refine cSeq ?_
      refine cBlock ?_
      refine cSeq ?_
      have hi5 : i < 6 := by have h0 := of_decide_eq_true hc1; omega
      refine cReg ?_
      refine mV hTT _ rfl ?_
      refine mV hTT _ rfl ?_
      refine mV hTT (.d (.one (.at 4 ((tael L2 f) i)))) (ixR (el := (tael L2 f)) (z := ((i : Nat) : Int)) (n := n) rfl rfl rfl rfl rfl rfl (by omega) (by omega)) ?_
      refine mV hTT (.d (.agg ([.v (.bool ((f i).1.1)), lr L2 ((f i).1.2)] ++ [.v (.bool ((f i).2.1)), lr L2 ((f i).2.2)]))) rfl ?_
      refine mC0 (aOf4 (K := L2) (k := 3) (M := 64) (s := (f i).1.1) (t := (f i).2.1) (xs := (f i).1.2) (ys := (f i).2.2) (by decide) (by decide) (by omega)) rfl rfl rfl ?_
      refine mV hTT _ rfl ?_
      refine mV hTT _ rfl ?_
      refine mV hTT _ rfl ?_
      refine mN hTT (.box 27 ([.v (.bool false), .v (.slice none 0 0), .v (.bool false), .v (.slice none 0 0)])) rfl rfl rfl ?_
      refine mN hTT (.box 40 ([.v (.slice none 0 0), .v (.bool false), .v (.slice none 0 0), .v (.bool false)])) rfl rfl rfl ?_
      refine mS hTT 10 (.box 27 ([.v (.bool ((f i).1.1)), lr 3 (((f i).1.2).take 3)] ++ [.v (.bool ((f i).2.1)), lr 3 (((f i).2.2).take 3)])) rfl ?_
      refine mS hTT 11 (.box 40 (qn 64 (mkR (zv ((f i).1.1) (val (((f i).1.2).take 3))) (zv ((f i).2.1) (val (((f i).2.2).take 3)))))) rfl ?_
      refine mNil ?_
      refine tN ?_
      refine cSeq ?_
      refine cReg ?_
      refine mV hTT _ rfl ?_
      refine mV hTT (.d (.agg ([.v (.bool ((f i).1.1)), lr 3 (((f i).1.2).take 3)] ++ [.v (.bool ((f i).2.1)), lr 3 (((f i).2.2).take 3)]))) rfl ?_
      refine mB hTT (.d (.one (.row 4 1 (fun i' j' => (([.v (.bool ((f i).1.1)), lr 3 (((f i).1.2).take 3)] ++ [.v (.bool ((f i).2.1)), lr 3 (((f i).2.2).take 3)])[i' * 4 + j']?).getD (.v undef))))) rfl ?_
      refine mA hTT (id := 8) (n := i) (m := 1) (el := (tael 3 (fun i : Nat => (((f i).1.1, (f i).1.2.take 3), ((f i).2.1, (f i).2.2.take 3))))) (el2 := (fun i' j' => (([.v (.bool ((f i).1.1)), lr 3 (((f i).1.2).take 3)] ++ [.v (.bool ((f i).2.1)), lr 3 (((f i).2.2).take 3)])[i' * 4 + j']?).getD (.v undef))) rfl rfl rfl (by show (i + 1) * 64 ≤ 140737488355328; omega) (by omega) rfl rfl rfl rfl rfl rfl rfl rfl rfl rfl ?_
      refine mV hTT _ rfl ?_
      refine mNil ?_
      refine tN ?_
      refine cSeq ?_
      refine cReg ?_
      refine mV hTT (.d (.agg (qn (64 + 65 * i) (tsum (fq (fun i : Nat => (((f i).1.1, (f i).1.2.take 3), ((f i).2.1, (f i).2.2.take 3)))) i)))) rfl ?_
      refine mV hTT (.d (.agg (qn 64 (mkR (zv ((f i).1.1) (val (((f i).1.2).take 3))) (zv ((f i).2.1) (val (((f i).2.2).take 3))))))) rfl ?_
      refine mC0 (aRAddR (isq (64 + 65 * i) (tsum (fq (fun i : Nat => (((f i).1.1, (f i).1.2.take 3), ((f i).2.1, (f i).2.2.take 3)))) i)) (isq 64 (mkR (zv ((f i).1.1) (val (((f i).1.2).take 3))) (zv ((f i).2.1) (val (((f i).2.2).take 3))))) (M := (max ((64 + 65 * i) + 64 + 1) 64)) (by omega) (by omega)) rfl rfl rfl ?_
      refine mS hTT 6 (.box 40 (qn (max ((64 + 65 * i) + 64 + 1) 64) ((tsum (fq (fun i : Nat => (((f i).1.1, (f i).1.2.take 3), ((f i).2.1, (f i).2.2.take 3)))) i) + (mkR (zv ((f i).1.1) (val (((f i).1.2).take 3))) (zv ((f i).2.1) (val (((f i).2.2).take 3))))))) rfl ?_
      refine mNil ?_
      refine tN ?_
      refine cSeq ?_
      refine cReg ?_
      refine mV hTT (.d (.agg (qn 64 (mkR (zv ((f i).1.1) (val (((f i).1.2).take 3))) (zv ((f i).2.1) (val (((f i).2.2).take 3))))))) rfl ?_
      refine mV hTT (.d (.agg (qn 64 (tmax (mkR (zv s1 (val (xs1.take 3))) (zv t1 (val (ys1.take 3)))) (fq (fun i : Nat => (((f i).1.1, (f i).1.2.take 3), ((f i).2.1, (f i).2.2.take 3)))) i)))) rfl ?_
      refine mC0 (aRCmpR (isq 64 (mkR (zv ((f i).1.1) (val (((f i).1.2).take 3))) (zv ((f i).2.1) (val (((f i).2.2).take 3))))) (isq 64 (tmax (mkR (zv s1 (val (xs1.take 3))) (zv t1 (val (ys1.take 3)))) (fq (fun i : Nat => (((f i).1.1, (f i).1.2.take 3), ((f i).2.1, (f i).2.2.take 3)))) i)) (by decide) (by decide)) rfl rfl rfl ?_
      refine mV hTT (.d (.one (.v (.bool (decide ((cmpQ (mkR (zv ((f i).1.1) (val (((f i).1.2).take 3))) (zv ((f i).2.1) (val (((f i).2.2).take 3)))) (tmax (mkR (zv s1 (val (xs1.take 3))) (zv t1 (val (ys1.take 3)))) (fq (fun i : Nat => (((f i).1.1, (f i).1.2.take 3), ((f i).2.1, (f i).2.2.take 3)))) i)) > 0)))))) rfl ?_
      refine mNil ?_
      refine tN ?_
      refine cCond rfl (fun hc2 => ?_) (fun hc2 => ?_)
      · skip
        refine cReg ?_
        refine mV hTT (.d (.agg (qn 64 (mkR (zv ((f i).1.1) (val (((f i).1.2).take 3))) (zv ((f i).2.1) (val (((f i).2.2).take 3))))))) rfl ?_
        refine mS hTT 7 (.box 40 (qn 64 (mkR (zv ((f i).1.1) (val (((f i).1.2).take 3))) (zv ((f i).2.1) (val (((f i).2.2).take 3)))))) rfl ?_
        refine mNil ?_
        refine bN ?_
        refine tN ?_
        refine cReg ?_
        refine mV hTT _ rfl ?_
        refine mV hTT (.d (.one (.v (.int .i64 (IntKind.i64.wrap (((i : Nat) : Int) + 1)))))) rfl ?_
        refine mV hTT _ rfl ?_
        refine mNil ?_
        exact ⟨(i + 1), by omega, by omega, wk (sl := [(1, .d (.one (.row 4 n (tael L2 f)))), (2, .ptr 2 0), (6, .ptr 6 0), (7, .ptr 7 0), (8, .own 8), (9, .d (.one (.v (.int .i64 (((i + 1) : Nat) : Int)))))]) (hp := [(2, .box 27 ([.v (.bool s1), lr 3 (xs1.take 3)] ++ [.v (.bool t1), lr 3 (ys1.take 3)])), (6, .box 40 (qn (64 + 65 * (i + 1)) (tsum (fq (fun i : Nat => (((f i).1.1, (f i).1.2.take 3), ((f i).2.1, (f i).2.2.take 3)))) (i + 1)))), (7, .box 40 (qn 64 (tmax (mkR (zv s1 (val (xs1.take 3))) (zv t1 (val (ys1.take 3)))) (fq (fun i : Nat => (((f i).1.1, (f i).1.2.take 3), ((f i).2.1, (f i).2.2.take 3)))) (i + 1)))), (8, .row 27 4 (i + 1) (tael 3 (fun i : Nat => (((f i).1.1, (f i).1.2.take 3), ((f i).2.1, (f i).2.2.take 3)))))]) rfl ⟨hs rfl, hs rfl, hs rfl, hs rfl, hs rfl, hs' rfl (le_int (inc64 (by omega))), trivial⟩ ⟨ho rfl, ho' rfl (leo_qn (by omega) rfl), ho' rfl (leo_qn (by omega) (by show _ = (if cmpQ (fq (fun i : Nat => (((f i).1.1, (f i).1.2.take 3), ((f i).2.1, (f i).2.2.take 3))) i) (tmax (mkR (zv s1 (val (xs1.take 3))) (zv t1 (val (ys1.take 3)))) (fq (fun i : Nat => (((f i).1.1, (f i).1.2.take 3), ((f i).2.1, (f i).2.2.take 3)))) i) > 0 then fq (fun i : Nat => (((f i).1.1, (f i).1.2.take 3), ((f i).2.1, (f i).2.2.take 3))) i else tmax (mkR (zv s1 (val (xs1.take 3))) (zv t1 (val (ys1.take 3)))) (fq (fun i : Nat => (((f i).1.1, (f i).1.2.take 3), ((f i).2.1, (f i).2.2.take 3)))) i); exact (if_pos (of_decide_eq_true hc2)).symm)), ho' rfl (app_t rfl (Nat.le_refl _) (Nat.le_refl _)), trivial⟩ rfl⟩
      · skip
        refine cSkip ?_
        refine bN ?_
        refine tN ?_
        refine cReg ?_
        refine mV hTT _ rfl ?_
        refine mV hTT (.d (.one (.v (.int .i64 (IntKind.i64.wrap (((i : Nat) : Int) + 1)))))) rfl ?_
        refine mV hTT _ rfl ?_
        refine mNil ?_
        exact ⟨(i + 1), by omega, by omega, wk (sl := [(1, .d (.one (.row 4 n (tael L2 f)))), (2, .ptr 2 0), (6, .ptr 6 0), (7, .ptr 7 0), (8, .own 8), (9, .d (.one (.v (.int .i64 (((i + 1) : Nat) : Int)))))]) (hp := [(2, .box 27 ([.v (.bool s1), lr 3 (xs1.take 3)] ++ [.v (.bool t1), lr 3 (ys1.take 3)])), (6, .box 40 (qn (64 + 65 * (i + 1)) (tsum (fq (fun i : Nat => (((f i).1.1, (f i).1.2.take 3), ((f i).2.1, (f i).2.2.take 3)))) (i + 1)))), (7, .box 40 (qn 64 (tmax (mkR (zv s1 (val (xs1.take 3))) (zv t1 (val (ys1.take 3)))) (fq (fun i : Nat => (((f i).1.1, (f i).1.2.take 3), ((f i).2.1, (f i).2.2.take 3)))) (i + 1)))), (8, .row 27 4 (i + 1) (tael 3 (fun i : Nat => (((f i).1.1, (f i).1.2.take 3), ((f i).2.1, (f i).2.2.take 3)))))]) rfl ⟨hs rfl, hs rfl, hs rfl, hs rfl, hs rfl, hs' rfl (le_int (inc64 (by omega))), trivial⟩ ⟨ho rfl, ho' rfl (leo_qn (by omega) rfl), ho' rfl (leo_qn (by omega) (by show _ = (if cmpQ (fq (fun i : Nat => (((f i).1.1, (f i).1.2.take 3), ((f i).2.1, (f i).2.2.take 3))) i) (tmax (mkR (zv s1 (val (xs1.take 3))) (zv t1 (val (ys1.take 3)))) (fq (fun i : Nat => (((f i).1.1, (f i).1.2.take 3), ((f i).2.1, (f i).2.2.take 3)))) i) > 0 then fq (fun i : Nat => (((f i).1.1, (f i).1.2.take 3), ((f i).2.1, (f i).2.2.take 3))) i else tmax (mkR (zv s1 (val (xs1.take 3))) (zv t1 (val (ys1.take 3)))) (fq (fun i : Nat => (((f i).1.1, (f i).1.2.take 3), ((f i).2.1, (f i).2.2.take 3)))) i); exact (if_neg (of_decide_eq_false hc2)).symm)), ho' rfl (app_t rfl (Nat.le_refl _) (Nat.le_refl _)), trivial⟩ rfl⟩
    · skip
      refine cExit ?_
      refine tE ?_
      refine tE ?_
      refine bE ?_
      refine tN ?_
      refine cSeq ?_
      refine AW.wk (wkRow 8 rfl) ?_
      refine cView 8 (.d (.one (.row 4 i (tael 3 (fun i : Nat => (((f i).1.1, (f i).1.2.take 3), ((f i).2.1, (f i).2.2.take 3))))))) rfl (AV.le.rfl) ?_
      refine cDrawK hTT 15 (by kernel_rfl) (by kernel_rfl) (by kernel_rfl) ?_
      refine .cons (OpS.V (.d (.agg (qn (64 + 65 * i) (tsum (fq (fun i : Nat => (((f i).1.1, (f i).1.2.take 3), ((f i).2.1, (f i).2.2.take 3)))) i)))) rfl) ?_
      refine .cons (OpS.V _ rfl) ?_
      refine .cons (OpS.C0 (aTSum (K := 3) (n := i) (f := (fun i : Nat => (((f i).1.1, (f i).1.2.take 3), ((f i).2.1, (f i).2.2.take 3)))) (M := 44) (by show 2 + i * 7 ≤ 44; omega) (by omega)) rfl rfl rfl) ?_
      refine .cons (OpS.C0 (aIs4 (isq (64 + 65 * i) (tsum (fq (fun i : Nat => (((f i).1.1, (f i).1.2.take 3), ((f i).2.1, (f i).2.2.take 3)))) i)) (istn 44 (tsum (fq (fun i : Nat => (((f i).1.1, (f i).1.2.take 3), ((f i).2.1, (f i).2.2.take 3)))) i)) (by omega) (by decide)) rfl rfl rfl) ?_
      refine .cons (OpS.V _ rfl) ?_
      refine .cons (OpS.V (.d (.agg (qn 64 (tmax (mkR (zv s1 (val (xs1.take 3))) (zv t1 (val (ys1.take 3)))) (fq (fun i : Nat => (((f i).1.1, (f i).1.2.take 3), ((f i).2.1, (f i).2.2.take 3)))) i)))) rfl) ?_
      refine .cons (OpS.V (.d (.agg ([.v (.bool s1), lr 3 (xs1.take 3)] ++ [.v (.bool t1), lr 3 (ys1.take 3)]))) rfl) ?_
      refine .cons (OpS.V _ rfl) ?_
      refine .cons (OpS.C0 (aTMaxs (⟨s1, (xs1.take 3), t1, (ys1.take 3), fun _ _ _ h => h, rfl, rfl⟩ : IsT ([.v (.bool s1), lr 3 (xs1.take 3)] ++ [.v (.bool t1), lr 3 (ys1.take 3)]) 3 (zv s1 (val (xs1.take 3))) (zv t1 (val (ys1.take 3)))) (L := 3) (n0 := i) (f := (fun i : Nat => (((f i).1.1, (f i).1.2.take 3), ((f i).2.1, (f i).2.2.take 3)))) (M := 4) (by decide) (by decide) (by omega)) rfl rfl rfl) ?_
      refine .cons (OpS.C0 (aIs4 (isq 64 (tmax (mkR (zv s1 (val (xs1.take 3))) (zv t1 (val (ys1.take 3)))) (fq (fun i : Nat => (((f i).1.1, (f i).1.2.take 3), ((f i).2.1, (f i).2.2.take 3)))) i)) (istn 4 (tmax (mkR (zv s1 (val (xs1.take 3))) (zv t1 (val (ys1.take 3)))) (fq (fun i : Nat => (((f i).1.1, (f i).1.2.take 3), ((f i).2.1, (f i).2.2.take 3)))) i)) (by decide) (by decide)) rfl rfl rfl) ?_
      refine .cons (OpS.V _ rfl) ?_
      refine .cons (OpS.V _ rfl) ?_
      refine .cons (OpS.C0 (aWakes4) rfl rfl rfl) ?_
      refine .cons (OpS.V _ rfl) ?_
      refine .cons (OpS.V _ rfl) ?_
      refine .nil ?_
      refine mNil ?_
      refine tN ?_
      refine cRet ?_
      exact rQ rfl (AV.le.rfl)
  · skip
    refine cReg ?_
    refine mV hTT _ rfl ?_
    refine mV hTT _ rfl ?_
    refine mV hTT (.d (.one (.v (.int .i64 (n : Int))))) rfl ?_
    refine mV hTT (.d (.one (.v (.bool false)))) (evb (decide_eq_false (by omega))) ?_
    refine mV hTT _ rfl ?_
    refine mG rfl rfl ?_
    refine mG rfl rfl ?_
    refine mV hTT _ rfl ?_
    refine mNil ?_
    refine tN ?_
    refine cF rfl ?_
    refine cExit ?_
    refine tE ?_
    refine tE ?_
    refine bE ?_
    refine tN ?_
    refine cSeq ?_
    refine AW.wk (wkRow 8 rfl) ?_
    refine cView 8 (.d (.one (.row 4 i (tael 3 (fun i : Nat => (((f i).1.1, (f i).1.2.take 3), ((f i).2.1, (f i).2.2.take 3))))))) rfl (AV.le.rfl) ?_
    refine cDrawK hTT 15 (by kernel_rfl) (by kernel_rfl) (by kernel_rfl) ?_
    refine .cons (OpS.V (.d (.agg (qn (64 + 65 * i) (tsum (fq (fun i : Nat => (((f i).1.1, (f i).1.2.take 3), ((f i).2.1, (f i).2.2.take 3)))) i)))) rfl) ?_
    refine .cons (OpS.V _ rfl) ?_
    refine .cons (OpS.C0 (aTSum (K := 3) (n := i) (f := (fun i : Nat => (((f i).1.1, (f i).1.2.take 3), ((f i).2.1, (f i).2.2.take 3)))) (M := 44) (by show 2 + i * 7 ≤ 44; omega) (by omega)) rfl rfl rfl) ?_
    refine .cons (OpS.C0 (aIs4 (isq (64 + 65 * i) (tsum (fq (fun i : Nat => (((f i).1.1, (f i).1.2.take 3), ((f i).2.1, (f i).2.2.take 3)))) i)) (istn 44 (tsum (fq (fun i : Nat => (((f i).1.1, (f i).1.2.take 3), ((f i).2.1, (f i).2.2.take 3)))) i)) (by omega) (by decide)) rfl rfl rfl) ?_
    refine .cons (OpS.V _ rfl) ?_
    refine .cons (OpS.V (.d (.agg (qn 64 (tmax (mkR (zv s1 (val (xs1.take 3))) (zv t1 (val (ys1.take 3)))) (fq (fun i : Nat => (((f i).1.1, (f i).1.2.take 3), ((f i).2.1, (f i).2.2.take 3)))) i)))) rfl) ?_
    refine .cons (OpS.V (.d (.agg ([.v (.bool s1), lr 3 (xs1.take 3)] ++ [.v (.bool t1), lr 3 (ys1.take 3)]))) rfl) ?_
    refine .cons (OpS.V _ rfl) ?_
    refine .cons (OpS.C0 (aTMaxs (⟨s1, (xs1.take 3), t1, (ys1.take 3), fun _ _ _ h => h, rfl, rfl⟩ : IsT ([.v (.bool s1), lr 3 (xs1.take 3)] ++ [.v (.bool t1), lr 3 (ys1.take 3)]) 3 (zv s1 (val (xs1.take 3))) (zv t1 (val (ys1.take 3)))) (L := 3) (n0 := i) (f := (fun i : Nat => (((f i).1.1, (f i).1.2.take 3), ((f i).2.1, (f i).2.2.take 3)))) (M := 4) (by decide) (by decide) (by omega)) rfl rfl rfl) ?_
    refine .cons (OpS.C0 (aIs4 (isq 64 (tmax (mkR (zv s1 (val (xs1.take 3))) (zv t1 (val (ys1.take 3)))) (fq (fun i : Nat => (((f i).1.1, (f i).1.2.take 3), ((f i).2.1, (f i).2.2.take 3)))) i)) (istn 4 (tmax (mkR (zv s1 (val (xs1.take 3))) (zv t1 (val (ys1.take 3)))) (fq (fun i : Nat => (((f i).1.1, (f i).1.2.take 3), ((f i).2.1, (f i).2.2.take 3)))) i)) (by decide) (by decide)) rfl rfl rfl) ?_
    refine .cons (OpS.V _ rfl) ?_
    refine .cons (OpS.V _ rfl) ?_
    refine .cons (OpS.C0 (aWakes4) rfl rfl rfl) ?_
    refine .cons (OpS.V _ rfl) ?_
    refine .cons (OpS.V _ rfl) ?_
    refine .nil ?_
    refine mNil ?_
    refine tN ?_
    refine cRet ?_
    exact rQ rfl (AV.le.rfl)

end Go.Proofs.Ytmfmeecnieblpaa

