/-
  THE LAWS of chapter 4, by the machine (1).
-/
import Derived.Test.YtmfmeecnieblpaaJ7
set_option linter.unusedVariables false
set_option linter.unusedSimpArgs false
namespace Go.Proofs.Ytmfmeecnieblpaa
open Go.RowKit

set_option maxRecDepth 100000 in
set_option maxHeartbeats 4000000 in
theorem aRatioLaws {L1 : Nat} {s1 t1 : Bool} {xs1 ys1 : List Nat} {L2 : Nat} {s2 t2 : Bool} {xs2 ys2 : List Nat} {L3 : Nat} {s3 t3 : Bool} {xs3 ys3 : List Nat} (hL1 : L1 ≤ 9223372036854775807) (hL2 : L2 ≤ 9223372036854775807) (hL3 : L3 ≤ 9223372036854775807) : ACall Try.prog 7 [.agg (tan L1 s1 xs1 t1 ys1), .agg (tan L2 s2 xs2 t2 ys2), .agg (tan L3 s3 xs3 t3 ys3)] (.d (.one (.v (.bool true)))) := by
  have h11 : Rat.divInt 1 1 = 1 := by decide +kernel
  refine acallN hTT 109 [.tmp 6] Try.func7 rfl rfl rfl rfl rfl ?_
  refine cSeq ?_
  refine cReg ?_
  refine mN hTT (.box 27 ([.v (.bool s1), lr L1 xs1] ++ [.v (.bool t1), lr L1 ys1])) rfl rfl rfl ?_
  refine mN hTT (.box 27 ([.v (.bool s2), lr L2 xs2] ++ [.v (.bool t2), lr L2 ys2])) rfl rfl rfl ?_
  refine mN hTT (.box 27 ([.v (.bool s3), lr L3 xs3] ++ [.v (.bool t3), lr L3 ys3])) rfl rfl rfl ?_
  refine mV hTT _ rfl ?_
  refine mNil ?_
  refine tN ?_
  refine cSeq ?_
  refine cReg ?_
  refine mV hTT (.d (.agg ([.v (.bool s1), lr L1 xs1] ++ [.v (.bool t1), lr L1 ys1]))) rfl ?_
  refine mC0 (aOf4 (K := L1) (k := 3) (M := 64) (s := s1) (t := t1) (xs := xs1) (ys := ys1) (by decide) (by decide) (by omega)) rfl rfl rfl ?_
  refine mV hTT _ rfl ?_
  refine mV hTT _ rfl ?_
  refine mV hTT _ rfl ?_
  refine mS hTT 3 (.box 27 ([.v (.bool s1), lr 3 (xs1.take 3)] ++ [.v (.bool t1), lr 3 (ys1.take 3)])) rfl ?_
  refine mNil ?_
  refine tN ?_
  refine cSeq ?_
  refine cReg ?_
  refine mV hTT (.d (.agg ([.v (.bool s2), lr L2 xs2] ++ [.v (.bool t2), lr L2 ys2]))) rfl ?_
  refine mC0 (aOf4 (K := L2) (k := 3) (M := 64) (s := s2) (t := t2) (xs := xs2) (ys := ys2) (by decide) (by decide) (by omega)) rfl rfl rfl ?_
  refine mV hTT _ rfl ?_
  refine mV hTT _ rfl ?_
  refine mV hTT _ rfl ?_
  refine mS hTT 4 (.box 27 ([.v (.bool s2), lr 3 (xs2.take 3)] ++ [.v (.bool t2), lr 3 (ys2.take 3)])) rfl ?_
  refine mNil ?_
  refine tN ?_
  refine cSeq ?_
  refine cReg ?_
  refine mV hTT (.d (.agg ([.v (.bool s3), lr L3 xs3] ++ [.v (.bool t3), lr L3 ys3]))) rfl ?_
  refine mC0 (aOf4 (K := L3) (k := 3) (M := 64) (s := s3) (t := t3) (xs := xs3) (ys := ys3) (by decide) (by decide) (by omega)) rfl rfl rfl ?_
  refine mV hTT _ rfl ?_
  refine mV hTT _ rfl ?_
  refine mV hTT _ rfl ?_
  refine mS hTT 5 (.box 27 ([.v (.bool s3), lr 3 (xs3.take 3)] ++ [.v (.bool t3), lr 3 (ys3.take 3)])) rfl ?_
  refine mNil ?_
  refine tN ?_
  refine cSeq ?_
  refine cReg ?_
  refine mC0 (aTOf (n := 1) (d := 1) (by decide) (by decide) (by decide) (by decide) (by decide)) rfl rfl rfl ?_
  refine mV hTT _ rfl ?_
  refine mV hTT _ rfl ?_
  refine mV hTT _ rfl ?_
  refine mN hTT (.box 27 ([.v (.bool false), .v (.slice none 0 0), .v (.bool false), .v (.slice none 0 0)])) rfl rfl rfl ?_
  refine mS hTT 7 (.box 27 (tn 3 (Rat.divInt 1 1))) rfl ?_
  refine mV hTT _ rfl ?_
  refine mNil ?_
  refine tN ?_
  refine cSeq ?_
  refine cSeq ?_
  refine cDrawK hTT 24 (by kernel_rfl) (by kernel_rfl) (by kernel_rfl) ?_
  refine .cons (OpS.V (.d (.agg ([.v (.bool s1), lr 3 (xs1.take 3)] ++ [.v (.bool t1), lr 3 (ys1.take 3)]))) rfl) ?_
  refine .cons (OpS.V (.d (.agg ([.v (.bool s2), lr 3 (xs2.take 3)] ++ [.v (.bool t2), lr 3 (ys2.take 3)]))) rfl) ?_
  refine .cons (OpS.V (.d (.agg ([.v (.bool s3), lr 3 (xs3.take 3)] ++ [.v (.bool t3), lr 3 (ys3.take 3)]))) rfl) ?_
  refine .cons (OpS.C0 (aTAdd (⟨s2, (xs2.take 3), t2, (ys2.take 3), fun _ _ _ h => h, rfl, rfl⟩ : IsT ([.v (.bool s2), lr 3 (xs2.take 3)] ++ [.v (.bool t2), lr 3 (ys2.take 3)]) 3 (zv s2 (val (xs2.take 3))) (zv t2 (val (ys2.take 3)))) (⟨s3, (xs3.take 3), t3, (ys3.take 3), fun _ _ _ h => h, rfl, rfl⟩ : IsT ([.v (.bool s3), lr 3 (xs3.take 3)] ++ [.v (.bool t3), lr 3 (ys3.take 3)]) 3 (zv s3 (val (xs3.take 3))) (zv t3 (val (ys3.take 3)))) (M := 10) (by decide) (by decide)) rfl rfl rfl) ?_
  refine .cons (OpS.C0 (aTMul (⟨s1, (xs1.take 3), t1, (ys1.take 3), fun _ _ _ h => h, rfl, rfl⟩ : IsT ([.v (.bool s1), lr 3 (xs1.take 3)] ++ [.v (.bool t1), lr 3 (ys1.take 3)]) 3 (zv s1 (val (xs1.take 3))) (zv t1 (val (ys1.take 3)))) (ist_tn 10 ((mkR (zv s2 (val (xs2.take 3))) (zv t2 (val (ys2.take 3)))) + (mkR (zv s3 (val (xs3.take 3))) (zv t3 (val (ys3.take 3)))))) (M := 17) (by decide) (by decide)) rfl rfl rfl) ?_
  refine .cons (OpS.V (.d (.agg ([.v (.bool s1), lr 3 (xs1.take 3)] ++ [.v (.bool t1), lr 3 (ys1.take 3)]))) rfl) ?_
  refine .cons (OpS.V (.d (.agg ([.v (.bool s2), lr 3 (xs2.take 3)] ++ [.v (.bool t2), lr 3 (ys2.take 3)]))) rfl) ?_
  refine .cons (OpS.C0 (aTMul (⟨s1, (xs1.take 3), t1, (ys1.take 3), fun _ _ _ h => h, rfl, rfl⟩ : IsT ([.v (.bool s1), lr 3 (xs1.take 3)] ++ [.v (.bool t1), lr 3 (ys1.take 3)]) 3 (zv s1 (val (xs1.take 3))) (zv t1 (val (ys1.take 3)))) (⟨s2, (xs2.take 3), t2, (ys2.take 3), fun _ _ _ h => h, rfl, rfl⟩ : IsT ([.v (.bool s2), lr 3 (xs2.take 3)] ++ [.v (.bool t2), lr 3 (ys2.take 3)]) 3 (zv s2 (val (xs2.take 3))) (zv t2 (val (ys2.take 3)))) (M := 10) (by decide) (by decide)) rfl rfl rfl) ?_
  refine .cons (OpS.V (.d (.agg ([.v (.bool s1), lr 3 (xs1.take 3)] ++ [.v (.bool t1), lr 3 (ys1.take 3)]))) rfl) ?_
  refine .cons (OpS.V (.d (.agg ([.v (.bool s3), lr 3 (xs3.take 3)] ++ [.v (.bool t3), lr 3 (ys3.take 3)]))) rfl) ?_
  refine .cons (OpS.C0 (aTMul (⟨s1, (xs1.take 3), t1, (ys1.take 3), fun _ _ _ h => h, rfl, rfl⟩ : IsT ([.v (.bool s1), lr 3 (xs1.take 3)] ++ [.v (.bool t1), lr 3 (ys1.take 3)]) 3 (zv s1 (val (xs1.take 3))) (zv t1 (val (ys1.take 3)))) (⟨s3, (xs3.take 3), t3, (ys3.take 3), fun _ _ _ h => h, rfl, rfl⟩ : IsT ([.v (.bool s3), lr 3 (xs3.take 3)] ++ [.v (.bool t3), lr 3 (ys3.take 3)]) 3 (zv s3 (val (xs3.take 3))) (zv t3 (val (ys3.take 3)))) (M := 10) (by decide) (by decide)) rfl rfl rfl) ?_
  refine .cons (OpS.C0 (aTAdd (ist_tn 10 ((mkR (zv s1 (val (xs1.take 3))) (zv t1 (val (ys1.take 3)))) * (mkR (zv s2 (val (xs2.take 3))) (zv t2 (val (ys2.take 3)))))) (ist_tn 10 ((mkR (zv s1 (val (xs1.take 3))) (zv t1 (val (ys1.take 3)))) * (mkR (zv s3 (val (xs3.take 3))) (zv t3 (val (ys3.take 3)))))) (M := 24) (by decide) (by decide)) rfl rfl rfl) ?_
  refine .cons (OpS.C0 (aTCmp (ist_tn 17 ((mkR (zv s1 (val (xs1.take 3))) (zv t1 (val (ys1.take 3)))) * (mkR (Rat.num ((mkR (zv s2 (val (xs2.take 3))) (zv t2 (val (ys2.take 3)))) + (mkR (zv s3 (val (xs3.take 3))) (zv t3 (val (ys3.take 3)))))) (Rat.den ((mkR (zv s2 (val (xs2.take 3))) (zv t2 (val (ys2.take 3)))) + (mkR (zv s3 (val (xs3.take 3))) (zv t3 (val (ys3.take 3))))) : Int)))) (ist_tn 24 ((mkR (Rat.num ((mkR (zv s1 (val (xs1.take 3))) (zv t1 (val (ys1.take 3)))) * (mkR (zv s2 (val (xs2.take 3))) (zv t2 (val (ys2.take 3)))))) (Rat.den ((mkR (zv s1 (val (xs1.take 3))) (zv t1 (val (ys1.take 3)))) * (mkR (zv s2 (val (xs2.take 3))) (zv t2 (val (ys2.take 3))))) : Int)) + (mkR (Rat.num ((mkR (zv s1 (val (xs1.take 3))) (zv t1 (val (ys1.take 3)))) * (mkR (zv s3 (val (xs3.take 3))) (zv t3 (val (ys3.take 3)))))) (Rat.den ((mkR (zv s1 (val (xs1.take 3))) (zv t1 (val (ys1.take 3)))) * (mkR (zv s3 (val (xs3.take 3))) (zv t3 (val (ys3.take 3))))) : Int)))) (by decide) (by decide)) rfl rfl rfl) ?_
  refine .cons (OpS.V (.d (.one (.v (.bool false)))) (evb (bne_eq_false_iff_eq.2 (cmpQ_eq (by simp only [mkR_self]; grind))))) ?_
  refine .cons (OpS.V _ rfl) ?_
  refine .cons (OpS.V (.d (.agg ([.v (.bool s1), lr 3 (xs1.take 3)] ++ [.v (.bool t1), lr 3 (ys1.take 3)]))) rfl) ?_
  refine .cons (OpS.V (.d (.agg ([.v (.bool s2), lr 3 (xs2.take 3)] ++ [.v (.bool t2), lr 3 (ys2.take 3)]))) rfl) ?_
  refine .cons (OpS.C0 (aTAdd (⟨s1, (xs1.take 3), t1, (ys1.take 3), fun _ _ _ h => h, rfl, rfl⟩ : IsT ([.v (.bool s1), lr 3 (xs1.take 3)] ++ [.v (.bool t1), lr 3 (ys1.take 3)]) 3 (zv s1 (val (xs1.take 3))) (zv t1 (val (ys1.take 3)))) (⟨s2, (xs2.take 3), t2, (ys2.take 3), fun _ _ _ h => h, rfl, rfl⟩ : IsT ([.v (.bool s2), lr 3 (xs2.take 3)] ++ [.v (.bool t2), lr 3 (ys2.take 3)]) 3 (zv s2 (val (xs2.take 3))) (zv t2 (val (ys2.take 3)))) (M := 10) (by decide) (by decide)) rfl rfl rfl) ?_
  refine .cons (OpS.V (.d (.agg ([.v (.bool s2), lr 3 (xs2.take 3)] ++ [.v (.bool t2), lr 3 (ys2.take 3)]))) rfl) ?_
  refine .cons (OpS.C0 (aTSub (ist_tn 10 ((mkR (zv s1 (val (xs1.take 3))) (zv t1 (val (ys1.take 3)))) + (mkR (zv s2 (val (xs2.take 3))) (zv t2 (val (ys2.take 3)))))) (⟨s2, (xs2.take 3), t2, (ys2.take 3), fun _ _ _ h => h, rfl, rfl⟩ : IsT ([.v (.bool s2), lr 3 (xs2.take 3)] ++ [.v (.bool t2), lr 3 (ys2.take 3)]) 3 (zv s2 (val (xs2.take 3))) (zv t2 (val (ys2.take 3)))) (M := 17) (by decide) (by decide)) rfl rfl rfl) ?_
  refine .cons (OpS.V (.d (.agg ([.v (.bool s1), lr 3 (xs1.take 3)] ++ [.v (.bool t1), lr 3 (ys1.take 3)]))) rfl) ?_
  refine .cons (OpS.C0 (aTCmp (ist_tn 17 ((mkR (Rat.num ((mkR (zv s1 (val (xs1.take 3))) (zv t1 (val (ys1.take 3)))) + (mkR (zv s2 (val (xs2.take 3))) (zv t2 (val (ys2.take 3)))))) (Rat.den ((mkR (zv s1 (val (xs1.take 3))) (zv t1 (val (ys1.take 3)))) + (mkR (zv s2 (val (xs2.take 3))) (zv t2 (val (ys2.take 3))))) : Int)) - (mkR (zv s2 (val (xs2.take 3))) (zv t2 (val (ys2.take 3)))))) (⟨s1, (xs1.take 3), t1, (ys1.take 3), fun _ _ _ h => h, rfl, rfl⟩ : IsT ([.v (.bool s1), lr 3 (xs1.take 3)] ++ [.v (.bool t1), lr 3 (ys1.take 3)]) 3 (zv s1 (val (xs1.take 3))) (zv t1 (val (ys1.take 3)))) (by decide) (by decide)) rfl rfl rfl) ?_
  refine .cons (OpS.V (.d (.one (.v (.bool false)))) (evb (bne_eq_false_iff_eq.2 (cmpQ_eq (by simp only [mkR_self]; grind))))) ?_
  refine .cons (OpS.V _ rfl) ?_
  refine .nil ?_
  refine mNil ?_
  refine tN ?_
  refine cF rfl ?_
  refine cSkip ?_
  refine tN ?_
  refine cSeq ?_
  refine cReg ?_
  refine mV hTT (.d (.agg ([.v (.bool s1), lr 3 (xs1.take 3)] ++ [.v (.bool t1), lr 3 (ys1.take 3)]))) rfl ?_
  refine mC0 (aTFloor (⟨s1, (xs1.take 3), t1, (ys1.take 3), fun _ _ _ h => h, rfl, rfl⟩ : IsT ([.v (.bool s1), lr 3 (xs1.take 3)] ++ [.v (.bool t1), lr 3 (ys1.take 3)]) 3 (zv s1 (val (xs1.take 3))) (zv t1 (val (ys1.take 3)))) (M := 5) (by decide) (by decide)) rfl rfl rfl ?_
  refine mC0 (aTInt (isz 5 (Rat.num (mkR (zv s1 (val (xs1.take 3))) (zv t1 (val (ys1.take 3)))) / (Rat.den (mkR (zv s1 (val (xs1.take 3))) (zv t1 (val (ys1.take 3)))) : Int))) (M := 5) (by decide) (by decide)) rfl rfl rfl ?_
  refine mN hTT (.box 27 ([.v (.bool false), .v (.slice none 0 0), .v (.bool false), .v (.slice none 0 0)])) rfl rfl rfl ?_
  refine mS hTT 9 (.box 27 (tn 5 (((Rat.num (mkR (zv s1 (val (xs1.take 3))) (zv t1 (val (ys1.take 3)))) / (Rat.den (mkR (zv s1 (val (xs1.take 3))) (zv t1 (val (ys1.take 3)))) : Int)) : Int) : Rat))) rfl ?_
  refine mNil ?_
  refine tN ?_
  refine cSeq ?_
  refine cSeq ?_
  refine cDrawK hTT 12 (by kernel_rfl) (by kernel_rfl) (by kernel_rfl) ?_
  refine .cons (OpS.V (.d (.agg (tn 5 (((Rat.num (mkR (zv s1 (val (xs1.take 3))) (zv t1 (val (ys1.take 3)))) / (Rat.den (mkR (zv s1 (val (xs1.take 3))) (zv t1 (val (ys1.take 3)))) : Int)) : Int) : Rat)))) rfl) ?_
  refine .cons (OpS.V (.d (.agg ([.v (.bool s1), lr 3 (xs1.take 3)] ++ [.v (.bool t1), lr 3 (ys1.take 3)]))) rfl) ?_
  refine .cons (OpS.C0 (aTCmp (ist_tn 5 (((Rat.num (mkR (zv s1 (val (xs1.take 3))) (zv t1 (val (ys1.take 3)))) / (Rat.den (mkR (zv s1 (val (xs1.take 3))) (zv t1 (val (ys1.take 3)))) : Int)) : Int) : Rat)) (⟨s1, (xs1.take 3), t1, (ys1.take 3), fun _ _ _ h => h, rfl, rfl⟩ : IsT ([.v (.bool s1), lr 3 (xs1.take 3)] ++ [.v (.bool t1), lr 3 (ys1.take 3)]) 3 (zv s1 (val (xs1.take 3))) (zv t1 (val (ys1.take 3)))) (by decide) (by decide)) rfl rfl rfl) ?_
  refine .cons (OpS.V (.d (.one (.v (.bool false)))) (evb (decide_eq_false (Int.not_lt.2 (cmpQ_le.2 (by simp only [mkR_self]; exact floor_le' _)))))) ?_
  refine .cons (OpS.V _ rfl) ?_
  refine .cons (OpS.V (.d (.agg (tn 5 (((Rat.num (mkR (zv s1 (val (xs1.take 3))) (zv t1 (val (ys1.take 3)))) / (Rat.den (mkR (zv s1 (val (xs1.take 3))) (zv t1 (val (ys1.take 3)))) : Int)) : Int) : Rat)))) rfl) ?_
  refine .cons (OpS.V (.d (.agg (tn 3 (Rat.divInt 1 1)))) rfl) ?_
  refine .cons (OpS.C0 (aTAdd (ist_tn 5 (((Rat.num (mkR (zv s1 (val (xs1.take 3))) (zv t1 (val (ys1.take 3)))) / (Rat.den (mkR (zv s1 (val (xs1.take 3))) (zv t1 (val (ys1.take 3)))) : Int)) : Int) : Rat)) (ist_tn 3 (Rat.divInt 1 1)) (M := 12) (by decide) (by decide)) rfl rfl rfl) ?_
  refine .cons (OpS.V (.d (.agg ([.v (.bool s1), lr 3 (xs1.take 3)] ++ [.v (.bool t1), lr 3 (ys1.take 3)]))) rfl) ?_
  refine .cons (OpS.C0 (aTCmp (ist_tn 12 ((mkR (Rat.num (((Rat.num (mkR (zv s1 (val (xs1.take 3))) (zv t1 (val (ys1.take 3)))) / (Rat.den (mkR (zv s1 (val (xs1.take 3))) (zv t1 (val (ys1.take 3)))) : Int)) : Int) : Rat)) (Rat.den (((Rat.num (mkR (zv s1 (val (xs1.take 3))) (zv t1 (val (ys1.take 3)))) / (Rat.den (mkR (zv s1 (val (xs1.take 3))) (zv t1 (val (ys1.take 3)))) : Int)) : Int) : Rat) : Int)) + (mkR (Rat.num (Rat.divInt 1 1)) (Rat.den (Rat.divInt 1 1) : Int)))) (⟨s1, (xs1.take 3), t1, (ys1.take 3), fun _ _ _ h => h, rfl, rfl⟩ : IsT ([.v (.bool s1), lr 3 (xs1.take 3)] ++ [.v (.bool t1), lr 3 (ys1.take 3)]) 3 (zv s1 (val (xs1.take 3))) (zv t1 (val (ys1.take 3)))) (by decide) (by decide)) rfl rfl rfl) ?_
  refine .cons (OpS.V (.d (.one (.v (.bool false)))) (evb (decide_eq_false (mt cmpQ_le.1 (by simp only [mkR_self]; rw [h11]; exact Rat.not_le.2 (floor_gt' _)))))) ?_
  refine .cons (OpS.V _ rfl) ?_
  refine .nil ?_
  refine mNil ?_
  refine tN ?_
  refine cF rfl ?_
  refine cSkip ?_
  refine tN ?_
  refine cSeq ?_
  refine cSeq ?_
  by_cases hq : (mkR (zv s2 (val (xs2.take 3))) (zv t2 (val (ys2.take 3)))) = 0
  · skip
    refine cReg ?_
    refine mV hTT (.d (.agg ([.v (.bool s1), lr 3 (xs1.take 3)] ++ [.v (.bool t1), lr 3 (ys1.take 3)]))) rfl ?_
    refine mV hTT (.d (.agg ([.v (.bool s2), lr 3 (xs2.take 3)] ++ [.v (.bool t2), lr 3 (ys2.take 3)]))) rfl ?_
    refine mC0 (aTQuo0 (⟨s1, (xs1.take 3), t1, (ys1.take 3), fun _ _ _ h => h, rfl, rfl⟩ : IsT ([.v (.bool s1), lr 3 (xs1.take 3)] ++ [.v (.bool t1), lr 3 (ys1.take 3)]) 3 (zv s1 (val (xs1.take 3))) (zv t1 (val (ys1.take 3)))) (⟨s2, (xs2.take 3), t2, (ys2.take 3), fun _ _ _ h => h, rfl, rfl⟩ : IsT ([.v (.bool s2), lr 3 (xs2.take 3)] ++ [.v (.bool t2), lr 3 (ys2.take 3)]) 3 (zv s2 (val (xs2.take 3))) (zv t2 (val (ys2.take 3)))) hq (by decide) (by decide)) rfl rfl rfl ?_
    refine mV hTT _ rfl ?_
    refine mV hTT _ rfl ?_
    refine mV hTT _ rfl ?_
    refine mN hTT (.box 27 ([.v (.bool false), .v (.slice none 0 0), .v (.bool false), .v (.slice none 0 0)])) rfl rfl rfl ?_
    refine mS hTT 10 (.box 27 ([.v (.bool false), .v (.slice none 0 0), .v (.bool false), .v (.slice none 0 0)])) rfl ?_
    refine mV hTT _ rfl ?_
    refine mNil ?_
    refine tN ?_
    refine cSeq ?_
    refine cDrawK hTT 10 (by kernel_rfl) (by kernel_rfl) (by kernel_rfl) ?_
    refine .cons (OpS.V _ rfl) ?_
    refine .cons (OpS.V (.d (.one (.v (.bool false)))) rfl) ?_
    refine .cons (OpS.V _ rfl) ?_
    refine .cons (OpS.G rfl rfl) ?_
    refine .cons (OpS.G rfl rfl) ?_
    refine .cons (OpS.G rfl rfl) ?_
    refine .cons (OpS.G rfl rfl) ?_
    refine .cons (OpS.G rfl rfl) ?_
    refine .cons (OpS.G rfl rfl) ?_
    refine .cons (OpS.V _ rfl) ?_
    refine .nil ?_
    refine mNil ?_
    refine tN ?_
    refine cF rfl ?_
    refine cSkip ?_
    refine tN ?_
    refine cSeq ?_
    refine cReg ?_
    refine mV hTT (.d (.agg ([.v (.bool s1), lr 3 (xs1.take 3)] ++ [.v (.bool t1), lr 3 (ys1.take 3)]))) rfl ?_
    refine mV hTT (.d (.agg ([.v (.bool s2), lr 3 (xs2.take 3)] ++ [.v (.bool t2), lr 3 (ys2.take 3)]))) rfl ?_
    refine mC0 (aTMid (⟨s1, (xs1.take 3), t1, (ys1.take 3), fun _ _ _ h => h, rfl, rfl⟩ : IsT ([.v (.bool s1), lr 3 (xs1.take 3)] ++ [.v (.bool t1), lr 3 (ys1.take 3)]) 3 (zv s1 (val (xs1.take 3))) (zv t1 (val (ys1.take 3)))) (⟨s2, (xs2.take 3), t2, (ys2.take 3), fun _ _ _ h => h, rfl, rfl⟩ : IsT ([.v (.bool s2), lr 3 (xs2.take 3)] ++ [.v (.bool t2), lr 3 (ys2.take 3)]) 3 (zv s2 (val (xs2.take 3))) (zv t2 (val (ys2.take 3)))) (M := 12) (by decide) (by decide)) rfl rfl rfl ?_
    refine mN hTT (.box 27 ([.v (.bool false), .v (.slice none 0 0), .v (.bool false), .v (.slice none 0 0)])) rfl rfl rfl ?_
    refine mS hTT 12 (.box 27 (tn 12 (((mkR (zv s1 (val (xs1.take 3))) (zv t1 (val (ys1.take 3)))) + (mkR (zv s2 (val (xs2.take 3))) (zv t2 (val (ys2.take 3))))) / 2))) rfl ?_
    refine mNil ?_
    refine tN ?_
    refine cSeq ?_
    refine cReg ?_
    refine mV hTT (.d (.agg ([.v (.bool s1), lr 3 (xs1.take 3)] ++ [.v (.bool t1), lr 3 (ys1.take 3)]))) rfl ?_
    refine mV hTT (.d (.agg ([.v (.bool s2), lr 3 (xs2.take 3)] ++ [.v (.bool t2), lr 3 (ys2.take 3)]))) rfl ?_
    refine mC0 (aTCmp (⟨s1, (xs1.take 3), t1, (ys1.take 3), fun _ _ _ h => h, rfl, rfl⟩ : IsT ([.v (.bool s1), lr 3 (xs1.take 3)] ++ [.v (.bool t1), lr 3 (ys1.take 3)]) 3 (zv s1 (val (xs1.take 3))) (zv t1 (val (ys1.take 3)))) (⟨s2, (xs2.take 3), t2, (ys2.take 3), fun _ _ _ h => h, rfl, rfl⟩ : IsT ([.v (.bool s2), lr 3 (xs2.take 3)] ++ [.v (.bool t2), lr 3 (ys2.take 3)]) 3 (zv s2 (val (xs2.take 3))) (zv t2 (val (ys2.take 3)))) (by decide) (by decide)) rfl rfl rfl ?_
    refine mV hTT _ rfl ?_
    refine mNil ?_
    refine tN ?_
    refine cSeq ?_
    refine cReg ?_
    refine mV hTT (.d (.agg ([.v (.bool s1), lr 3 (xs1.take 3)] ++ [.v (.bool t1), lr 3 (ys1.take 3)]))) rfl ?_
    refine mV hTT (.d (.agg (tn 12 (((mkR (zv s1 (val (xs1.take 3))) (zv t1 (val (ys1.take 3)))) + (mkR (zv s2 (val (xs2.take 3))) (zv t2 (val (ys2.take 3))))) / 2)))) rfl ?_
    refine mC0 (aTCmp (⟨s1, (xs1.take 3), t1, (ys1.take 3), fun _ _ _ h => h, rfl, rfl⟩ : IsT ([.v (.bool s1), lr 3 (xs1.take 3)] ++ [.v (.bool t1), lr 3 (ys1.take 3)]) 3 (zv s1 (val (xs1.take 3))) (zv t1 (val (ys1.take 3)))) (ist_tn 12 (((mkR (zv s1 (val (xs1.take 3))) (zv t1 (val (ys1.take 3)))) + (mkR (zv s2 (val (xs2.take 3))) (zv t2 (val (ys2.take 3))))) / 2)) (by decide) (by decide)) rfl rfl rfl ?_
    refine mV hTT _ rfl ?_
    refine mV hTT (.d (.one (.v (.bool true)))) (evb (beq_iff_eq.2 (by simp only [mkR_self]; exact cmpQ_midl _ _))) ?_
    refine mV hTT _ rfl ?_
    refine mV hTT (.d (.agg (tn 12 (((mkR (zv s1 (val (xs1.take 3))) (zv t1 (val (ys1.take 3)))) + (mkR (zv s2 (val (xs2.take 3))) (zv t2 (val (ys2.take 3))))) / 2)))) rfl ?_
    refine mV hTT (.d (.agg ([.v (.bool s2), lr 3 (xs2.take 3)] ++ [.v (.bool t2), lr 3 (ys2.take 3)]))) rfl ?_
    refine mC0 (aTCmp (ist_tn 12 (((mkR (zv s1 (val (xs1.take 3))) (zv t1 (val (ys1.take 3)))) + (mkR (zv s2 (val (xs2.take 3))) (zv t2 (val (ys2.take 3))))) / 2)) (⟨s2, (xs2.take 3), t2, (ys2.take 3), fun _ _ _ h => h, rfl, rfl⟩ : IsT ([.v (.bool s2), lr 3 (xs2.take 3)] ++ [.v (.bool t2), lr 3 (ys2.take 3)]) 3 (zv s2 (val (xs2.take 3))) (zv t2 (val (ys2.take 3)))) (by decide) (by decide)) rfl rfl rfl ?_
    refine mV hTT _ rfl ?_
    refine mV hTT (.d (.one (.v (.bool true)))) (evb (beq_iff_eq.2 (by simp only [mkR_self]; exact cmpQ_midr _ _))) ?_
    refine mV hTT _ rfl ?_
    refine mV hTT _ rfl ?_
    refine mC0 (aWakes4) rfl rfl rfl ?_
    refine mV hTT _ rfl ?_
    refine mV hTT _ rfl ?_
    refine mNil ?_
    refine tN ?_
    refine cRet ?_
    exact rQ rfl (AV.le.rfl)
  · skip
    refine cReg ?_
    refine mV hTT (.d (.agg ([.v (.bool s1), lr 3 (xs1.take 3)] ++ [.v (.bool t1), lr 3 (ys1.take 3)]))) rfl ?_
    refine mV hTT (.d (.agg ([.v (.bool s2), lr 3 (xs2.take 3)] ++ [.v (.bool t2), lr 3 (ys2.take 3)]))) rfl ?_
    refine mC0 (aTQuo (⟨s1, (xs1.take 3), t1, (ys1.take 3), fun _ _ _ h => h, rfl, rfl⟩ : IsT ([.v (.bool s1), lr 3 (xs1.take 3)] ++ [.v (.bool t1), lr 3 (ys1.take 3)]) 3 (zv s1 (val (xs1.take 3))) (zv t1 (val (ys1.take 3)))) (⟨s2, (xs2.take 3), t2, (ys2.take 3), fun _ _ _ h => h, rfl, rfl⟩ : IsT ([.v (.bool s2), lr 3 (xs2.take 3)] ++ [.v (.bool t2), lr 3 (ys2.take 3)]) 3 (zv s2 (val (xs2.take 3))) (zv t2 (val (ys2.take 3)))) hq (M := 10) (by decide) (by decide)) rfl rfl rfl ?_
    refine mV hTT _ rfl ?_
    refine mV hTT _ rfl ?_
    refine mV hTT _ rfl ?_
    refine mN hTT (.box 27 ([.v (.bool false), .v (.slice none 0 0), .v (.bool false), .v (.slice none 0 0)])) rfl rfl rfl ?_
    refine mS hTT 10 (.box 27 (tn 10 ((mkR (zv s1 (val (xs1.take 3))) (zv t1 (val (ys1.take 3)))) / (mkR (zv s2 (val (xs2.take 3))) (zv t2 (val (ys2.take 3))))))) rfl ?_
    refine mV hTT _ rfl ?_
    refine mNil ?_
    refine tN ?_
    refine cSeq ?_
    refine cDrawK hTT 10 (by kernel_rfl) (by kernel_rfl) (by kernel_rfl) ?_
    refine .cons (OpS.V _ rfl) ?_
    refine .cons (OpS.V (.d (.one (.v (.bool true)))) rfl) ?_
    refine .cons (OpS.V _ rfl) ?_
    refine .cons (OpS.V (.d (.agg (tn 10 ((mkR (zv s1 (val (xs1.take 3))) (zv t1 (val (ys1.take 3)))) / (mkR (zv s2 (val (xs2.take 3))) (zv t2 (val (ys2.take 3)))))))) rfl) ?_
    refine .cons (OpS.V (.d (.agg ([.v (.bool s2), lr 3 (xs2.take 3)] ++ [.v (.bool t2), lr 3 (ys2.take 3)]))) rfl) ?_
    refine .cons (OpS.C0 (aTMul (ist_tn 10 ((mkR (zv s1 (val (xs1.take 3))) (zv t1 (val (ys1.take 3)))) / (mkR (zv s2 (val (xs2.take 3))) (zv t2 (val (ys2.take 3)))))) (⟨s2, (xs2.take 3), t2, (ys2.take 3), fun _ _ _ h => h, rfl, rfl⟩ : IsT ([.v (.bool s2), lr 3 (xs2.take 3)] ++ [.v (.bool t2), lr 3 (ys2.take 3)]) 3 (zv s2 (val (xs2.take 3))) (zv t2 (val (ys2.take 3)))) (M := 17) (by decide) (by decide)) rfl rfl rfl) ?_
    refine .cons (OpS.V (.d (.agg ([.v (.bool s1), lr 3 (xs1.take 3)] ++ [.v (.bool t1), lr 3 (ys1.take 3)]))) rfl) ?_
    refine .cons (OpS.C0 (aTCmp (ist_tn 17 ((mkR (Rat.num ((mkR (zv s1 (val (xs1.take 3))) (zv t1 (val (ys1.take 3)))) / (mkR (zv s2 (val (xs2.take 3))) (zv t2 (val (ys2.take 3)))))) (Rat.den ((mkR (zv s1 (val (xs1.take 3))) (zv t1 (val (ys1.take 3)))) / (mkR (zv s2 (val (xs2.take 3))) (zv t2 (val (ys2.take 3))))) : Int)) * (mkR (zv s2 (val (xs2.take 3))) (zv t2 (val (ys2.take 3)))))) (⟨s1, (xs1.take 3), t1, (ys1.take 3), fun _ _ _ h => h, rfl, rfl⟩ : IsT ([.v (.bool s1), lr 3 (xs1.take 3)] ++ [.v (.bool t1), lr 3 (ys1.take 3)]) 3 (zv s1 (val (xs1.take 3))) (zv t1 (val (ys1.take 3)))) (by decide) (by decide)) rfl rfl rfl) ?_
    refine .cons (OpS.V (.d (.one (.v (.bool false)))) (evb (bne_eq_false_iff_eq.2 (cmpQ_eq (by simp only [mkR_self]; grind))))) ?_
    refine .cons (OpS.V _ rfl) ?_
    refine .nil ?_
    refine mNil ?_
    refine tN ?_
    refine cF rfl ?_
    refine cSkip ?_
    refine tN ?_
    refine cSeq ?_
    refine cReg ?_
    refine mV hTT (.d (.agg ([.v (.bool s1), lr 3 (xs1.take 3)] ++ [.v (.bool t1), lr 3 (ys1.take 3)]))) rfl ?_
    refine mV hTT (.d (.agg ([.v (.bool s2), lr 3 (xs2.take 3)] ++ [.v (.bool t2), lr 3 (ys2.take 3)]))) rfl ?_
    refine mC0 (aTMid (⟨s1, (xs1.take 3), t1, (ys1.take 3), fun _ _ _ h => h, rfl, rfl⟩ : IsT ([.v (.bool s1), lr 3 (xs1.take 3)] ++ [.v (.bool t1), lr 3 (ys1.take 3)]) 3 (zv s1 (val (xs1.take 3))) (zv t1 (val (ys1.take 3)))) (⟨s2, (xs2.take 3), t2, (ys2.take 3), fun _ _ _ h => h, rfl, rfl⟩ : IsT ([.v (.bool s2), lr 3 (xs2.take 3)] ++ [.v (.bool t2), lr 3 (ys2.take 3)]) 3 (zv s2 (val (xs2.take 3))) (zv t2 (val (ys2.take 3)))) (M := 12) (by decide) (by decide)) rfl rfl rfl ?_
    refine mN hTT (.box 27 ([.v (.bool false), .v (.slice none 0 0), .v (.bool false), .v (.slice none 0 0)])) rfl rfl rfl ?_
    refine mS hTT 12 (.box 27 (tn 12 (((mkR (zv s1 (val (xs1.take 3))) (zv t1 (val (ys1.take 3)))) + (mkR (zv s2 (val (xs2.take 3))) (zv t2 (val (ys2.take 3))))) / 2))) rfl ?_
    refine mNil ?_
    refine tN ?_
    refine cSeq ?_
    refine cReg ?_
    refine mV hTT (.d (.agg ([.v (.bool s1), lr 3 (xs1.take 3)] ++ [.v (.bool t1), lr 3 (ys1.take 3)]))) rfl ?_
    refine mV hTT (.d (.agg ([.v (.bool s2), lr 3 (xs2.take 3)] ++ [.v (.bool t2), lr 3 (ys2.take 3)]))) rfl ?_
    refine mC0 (aTCmp (⟨s1, (xs1.take 3), t1, (ys1.take 3), fun _ _ _ h => h, rfl, rfl⟩ : IsT ([.v (.bool s1), lr 3 (xs1.take 3)] ++ [.v (.bool t1), lr 3 (ys1.take 3)]) 3 (zv s1 (val (xs1.take 3))) (zv t1 (val (ys1.take 3)))) (⟨s2, (xs2.take 3), t2, (ys2.take 3), fun _ _ _ h => h, rfl, rfl⟩ : IsT ([.v (.bool s2), lr 3 (xs2.take 3)] ++ [.v (.bool t2), lr 3 (ys2.take 3)]) 3 (zv s2 (val (xs2.take 3))) (zv t2 (val (ys2.take 3)))) (by decide) (by decide)) rfl rfl rfl ?_
    refine mV hTT _ rfl ?_
    refine mNil ?_
    refine tN ?_
    refine cSeq ?_
    refine cReg ?_
    refine mV hTT (.d (.agg ([.v (.bool s1), lr 3 (xs1.take 3)] ++ [.v (.bool t1), lr 3 (ys1.take 3)]))) rfl ?_
    refine mV hTT (.d (.agg (tn 12 (((mkR (zv s1 (val (xs1.take 3))) (zv t1 (val (ys1.take 3)))) + (mkR (zv s2 (val (xs2.take 3))) (zv t2 (val (ys2.take 3))))) / 2)))) rfl ?_
    refine mC0 (aTCmp (⟨s1, (xs1.take 3), t1, (ys1.take 3), fun _ _ _ h => h, rfl, rfl⟩ : IsT ([.v (.bool s1), lr 3 (xs1.take 3)] ++ [.v (.bool t1), lr 3 (ys1.take 3)]) 3 (zv s1 (val (xs1.take 3))) (zv t1 (val (ys1.take 3)))) (ist_tn 12 (((mkR (zv s1 (val (xs1.take 3))) (zv t1 (val (ys1.take 3)))) + (mkR (zv s2 (val (xs2.take 3))) (zv t2 (val (ys2.take 3))))) / 2)) (by decide) (by decide)) rfl rfl rfl ?_
    refine mV hTT _ rfl ?_
    refine mV hTT (.d (.one (.v (.bool true)))) (evb (beq_iff_eq.2 (by simp only [mkR_self]; exact cmpQ_midl _ _))) ?_
    refine mV hTT _ rfl ?_
    refine mV hTT (.d (.agg (tn 12 (((mkR (zv s1 (val (xs1.take 3))) (zv t1 (val (ys1.take 3)))) + (mkR (zv s2 (val (xs2.take 3))) (zv t2 (val (ys2.take 3))))) / 2)))) rfl ?_
    refine mV hTT (.d (.agg ([.v (.bool s2), lr 3 (xs2.take 3)] ++ [.v (.bool t2), lr 3 (ys2.take 3)]))) rfl ?_
    refine mC0 (aTCmp (ist_tn 12 (((mkR (zv s1 (val (xs1.take 3))) (zv t1 (val (ys1.take 3)))) + (mkR (zv s2 (val (xs2.take 3))) (zv t2 (val (ys2.take 3))))) / 2)) (⟨s2, (xs2.take 3), t2, (ys2.take 3), fun _ _ _ h => h, rfl, rfl⟩ : IsT ([.v (.bool s2), lr 3 (xs2.take 3)] ++ [.v (.bool t2), lr 3 (ys2.take 3)]) 3 (zv s2 (val (xs2.take 3))) (zv t2 (val (ys2.take 3)))) (by decide) (by decide)) rfl rfl rfl ?_
    refine mV hTT _ rfl ?_
    refine mV hTT (.d (.one (.v (.bool true)))) (evb (beq_iff_eq.2 (by simp only [mkR_self]; exact cmpQ_midr _ _))) ?_
    refine mV hTT _ rfl ?_
    refine mV hTT _ rfl ?_
    refine mC0 (aWakes4) rfl rfl rfl ?_
    refine mV hTT _ rfl ?_
    refine mV hTT _ rfl ?_
    refine mNil ?_
    refine tN ?_
    refine cRet ?_
    exact rQ rfl (AV.le.rfl)

theorem trow2 {K : Nat} {F G : (Bool × List Nat) × (Bool × List Nat)} {el : Nat → Nat → Lf} (h0 : ∀ j, j < 4 → el 0 j = ((tan K F.1.1 F.1.2 F.2.1 F.2.2)[j]?).getD (.v undef) := by intro j hj; match j, hj with | 0, _ => rfl | 1, _ => rfl | 2, _ => rfl | 3, _ => rfl) (h1 : ∀ j, j < 4 → el 1 j = ((tan K G.1.1 G.1.2 G.2.1 G.2.2)[j]?).getD (.v undef) := by intro j hj; match j, hj with | 0, _ => rfl | 1, _ => rfl | 2, _ => rfl | 3, _ => rfl) : ∀ B w v, LfR B w (.row 4 2 el) v → LfR B w (trow K 2 (fun i : Nat => if i = 0 then F else G)) v :=
  row_le fun i hi j hj B w v hv => by
    match i, hi with
    | 0, _ => rw [h0 j hj] at hv; exact hv
    | 1, _ => rw [h1 j hj] at hv; exact hv
set_option maxRecDepth 100000 in
set_option maxHeartbeats 4000000 in
theorem aRatioOrders {L1 : Nat} {s1 t1 : Bool} {xs1 ys1 : List Nat} {L2 : Nat} {s2 t2 : Bool} {xs2 ys2 : List Nat} {L3 : Nat} {s3 t3 : Bool} {xs3 ys3 : List Nat} (hL1 : L1 ≤ 9223372036854775807) (hL2 : L2 ≤ 9223372036854775807) (hL3 : L3 ≤ 9223372036854775807) : ACall Try.prog 8 [.agg (tan L1 s1 xs1 t1 ys1), .agg (tan L2 s2 xs2 t2 ys2), .agg (tan L3 s3 xs3 t3 ys3)] (.d (.one (.v (.bool true)))) := by
  refine acallN hTT 125 [.tmp 6] Try.func8 rfl rfl rfl rfl rfl ?_
  refine cSeq ?_
  refine cReg ?_
  refine mN hTT (.box 27 ([.v (.bool s1), lr L1 xs1] ++ [.v (.bool t1), lr L1 ys1])) rfl rfl rfl ?_
  refine mN hTT (.box 27 ([.v (.bool s2), lr L2 xs2] ++ [.v (.bool t2), lr L2 ys2])) rfl rfl rfl ?_
  refine mN hTT (.box 27 ([.v (.bool s3), lr L3 xs3] ++ [.v (.bool t3), lr L3 ys3])) rfl rfl rfl ?_
  refine mV hTT _ rfl ?_
  refine mNil ?_
  refine tN ?_
  refine cSeq ?_
  refine cReg ?_
  refine mV hTT (.d (.agg ([.v (.bool s1), lr L1 xs1] ++ [.v (.bool t1), lr L1 ys1]))) rfl ?_
  refine mC0 (aOf4 (K := L1) (k := 3) (M := 64) (s := s1) (t := t1) (xs := xs1) (ys := ys1) (by decide) (by decide) (by omega)) rfl rfl rfl ?_
  refine mV hTT _ rfl ?_
  refine mV hTT _ rfl ?_
  refine mV hTT _ rfl ?_
  refine mS hTT 3 (.box 27 ([.v (.bool s1), lr 3 (xs1.take 3)] ++ [.v (.bool t1), lr 3 (ys1.take 3)])) rfl ?_
  refine mNil ?_
  refine tN ?_
  refine cSeq ?_
  refine cReg ?_
  refine mV hTT (.d (.agg ([.v (.bool s2), lr L2 xs2] ++ [.v (.bool t2), lr L2 ys2]))) rfl ?_
  refine mC0 (aOf4 (K := L2) (k := 3) (M := 64) (s := s2) (t := t2) (xs := xs2) (ys := ys2) (by decide) (by decide) (by omega)) rfl rfl rfl ?_
  refine mV hTT _ rfl ?_
  refine mV hTT _ rfl ?_
  refine mV hTT _ rfl ?_
  refine mS hTT 4 (.box 27 ([.v (.bool s2), lr 3 (xs2.take 3)] ++ [.v (.bool t2), lr 3 (ys2.take 3)])) rfl ?_
  refine mNil ?_
  refine tN ?_
  refine cSeq ?_
  refine cReg ?_
  refine mV hTT (.d (.agg ([.v (.bool s3), lr L3 xs3] ++ [.v (.bool t3), lr L3 ys3]))) rfl ?_
  refine mC0 (aOf4 (K := L3) (k := 3) (M := 64) (s := s3) (t := t3) (xs := xs3) (ys := ys3) (by decide) (by decide) (by omega)) rfl rfl rfl ?_
  refine mV hTT _ rfl ?_
  refine mV hTT _ rfl ?_
  refine mV hTT _ rfl ?_
  refine mS hTT 5 (.box 27 ([.v (.bool s3), lr 3 (xs3.take 3)] ++ [.v (.bool t3), lr 3 (ys3.take 3)])) rfl ?_
  refine mNil ?_
  refine tN ?_
  refine cSeq ?_
  refine cDrawK hTT 12 (by kernel_rfl) (by kernel_rfl) (by kernel_rfl) ?_
  refine .cons (OpS.V (.d (.agg ([.v (.bool s1), lr 3 (xs1.take 3)] ++ [.v (.bool t1), lr 3 (ys1.take 3)]))) rfl) ?_
  refine .cons (OpS.V (.d (.agg ([.v (.bool s2), lr 3 (xs2.take 3)] ++ [.v (.bool t2), lr 3 (ys2.take 3)]))) rfl) ?_
  refine .cons (OpS.C0 (aTCmp (⟨s1, (xs1.take 3), t1, (ys1.take 3), fun _ _ _ h => h, rfl, rfl⟩ : IsT ([.v (.bool s1), lr 3 (xs1.take 3)] ++ [.v (.bool t1), lr 3 (ys1.take 3)]) 3 (zv s1 (val (xs1.take 3))) (zv t1 (val (ys1.take 3)))) (⟨s2, (xs2.take 3), t2, (ys2.take 3), fun _ _ _ h => h, rfl, rfl⟩ : IsT ([.v (.bool s2), lr 3 (xs2.take 3)] ++ [.v (.bool t2), lr 3 (ys2.take 3)]) 3 (zv s2 (val (xs2.take 3))) (zv t2 (val (ys2.take 3)))) (by decide) (by decide)) rfl rfl rfl) ?_
  refine .cons (OpS.V (.d (.agg ([.v (.bool s2), lr 3 (xs2.take 3)] ++ [.v (.bool t2), lr 3 (ys2.take 3)]))) rfl) ?_
  refine .cons (OpS.V (.d (.agg ([.v (.bool s3), lr 3 (xs3.take 3)] ++ [.v (.bool t3), lr 3 (ys3.take 3)]))) rfl) ?_
  refine .cons (OpS.C0 (aTCmp (⟨s2, (xs2.take 3), t2, (ys2.take 3), fun _ _ _ h => h, rfl, rfl⟩ : IsT ([.v (.bool s2), lr 3 (xs2.take 3)] ++ [.v (.bool t2), lr 3 (ys2.take 3)]) 3 (zv s2 (val (xs2.take 3))) (zv t2 (val (ys2.take 3)))) (⟨s3, (xs3.take 3), t3, (ys3.take 3), fun _ _ _ h => h, rfl, rfl⟩ : IsT ([.v (.bool s3), lr 3 (xs3.take 3)] ++ [.v (.bool t3), lr 3 (ys3.take 3)]) 3 (zv s3 (val (xs3.take 3))) (zv t3 (val (ys3.take 3)))) (by decide) (by decide)) rfl rfl rfl) ?_
  refine .cons (OpS.V (.d (.agg ([.v (.bool s1), lr 3 (xs1.take 3)] ++ [.v (.bool t1), lr 3 (ys1.take 3)]))) rfl) ?_
  refine .cons (OpS.V (.d (.agg ([.v (.bool s3), lr 3 (xs3.take 3)] ++ [.v (.bool t3), lr 3 (ys3.take 3)]))) rfl) ?_
  refine .cons (OpS.C0 (aTCmp (⟨s1, (xs1.take 3), t1, (ys1.take 3), fun _ _ _ h => h, rfl, rfl⟩ : IsT ([.v (.bool s1), lr 3 (xs1.take 3)] ++ [.v (.bool t1), lr 3 (ys1.take 3)]) 3 (zv s1 (val (xs1.take 3))) (zv t1 (val (ys1.take 3)))) (⟨s3, (xs3.take 3), t3, (ys3.take 3), fun _ _ _ h => h, rfl, rfl⟩ : IsT ([.v (.bool s3), lr 3 (xs3.take 3)] ++ [.v (.bool t3), lr 3 (ys3.take 3)]) 3 (zv s3 (val (xs3.take 3))) (zv t3 (val (ys3.take 3)))) (by decide) (by decide)) rfl rfl rfl) ?_
  refine .cons (OpS.V _ rfl) ?_
  refine .cons (OpS.V _ rfl) ?_
  refine .cons (OpS.V _ rfl) ?_
  refine .nil ?_
  refine mNil ?_
  refine tN ?_
  refine cSeq ?_
  refine cSeq ?_
  have hb1 := cmpQ_bd (mkR (zv s2 (val (xs2.take 3))) (zv t2 (val (ys2.take 3)))) (mkR (zv s1 (val (xs1.take 3))) (zv t1 (val (ys1.take 3))))
  have hb2 := cmpQ_bd (mkR (zv s1 (val (xs1.take 3))) (zv t1 (val (ys1.take 3)))) (mkR (zv s2 (val (xs2.take 3))) (zv t2 (val (ys2.take 3))))
  by_cases hc1 : cmpQ (mkR (zv s1 (val (xs1.take 3))) (zv t1 (val (ys1.take 3)))) (mkR (zv s2 (val (xs2.take 3))) (zv t2 (val (ys2.take 3)))) ≤ 0
  · skip
    by_cases hc2 : cmpQ (mkR (zv s2 (val (xs2.take 3))) (zv t2 (val (ys2.take 3)))) (mkR (zv s3 (val (xs3.take 3))) (zv t3 (val (ys3.take 3)))) ≤ 0
    · skip
      refine cDrawK hTT 39 (by kernel_rfl) (by kernel_rfl) (by kernel_rfl) ?_
      refine .cons (OpS.V _ rfl) ?_
      refine .cons (OpS.V (.d (.agg ([.v (.bool s2), lr 3 (xs2.take 3)] ++ [.v (.bool t2), lr 3 (ys2.take 3)]))) rfl) ?_
      refine .cons (OpS.V (.d (.agg ([.v (.bool s1), lr 3 (xs1.take 3)] ++ [.v (.bool t1), lr 3 (ys1.take 3)]))) rfl) ?_
      refine .cons (OpS.C0 (aTCmp (⟨s2, (xs2.take 3), t2, (ys2.take 3), fun _ _ _ h => h, rfl, rfl⟩ : IsT ([.v (.bool s2), lr 3 (xs2.take 3)] ++ [.v (.bool t2), lr 3 (ys2.take 3)]) 3 (zv s2 (val (xs2.take 3))) (zv t2 (val (ys2.take 3)))) (⟨s1, (xs1.take 3), t1, (ys1.take 3), fun _ _ _ h => h, rfl, rfl⟩ : IsT ([.v (.bool s1), lr 3 (xs1.take 3)] ++ [.v (.bool t1), lr 3 (ys1.take 3)]) 3 (zv s1 (val (xs1.take 3))) (zv t1 (val (ys1.take 3)))) (by decide) (by decide)) rfl rfl rfl) ?_
      refine .cons (OpS.V (.d (.one (.v (.int .i64 (-(cmpQ (mkR (zv s2 (val (xs2.take 3))) (zv t2 (val (ys2.take 3)))) (mkR (zv s1 (val (xs1.take 3))) (zv t1 (val (ys1.take 3)))))))))) (evi ((wr64 (by omega) (by omega)).trans (by omega)))) ?_
      refine .cons (OpS.V (.d (.one (.v (.bool false)))) (evb (bne_eq_false_iff_eq.2 (by rw [cmpQ_anti (mkR (zv s1 (val (xs1.take 3))) (zv t1 (val (ys1.take 3)))) (mkR (zv s2 (val (xs2.take 3))) (zv t2 (val (ys2.take 3))))]; omega)))) ?_
      refine .cons (OpS.V _ rfl) ?_
      refine .cons (OpS.V _ rfl) ?_
      refine .cons (OpS.V (.d (.one (.v (.bool true)))) (evb (decide_eq_true hc1))) ?_
      refine .cons (OpS.V _ rfl) ?_
      refine .cons (OpS.V _ rfl) ?_
      refine .cons (OpS.V (.d (.one (.v (.bool true)))) (evb (decide_eq_true hc2))) ?_
      refine .cons (OpS.V _ rfl) ?_
      refine .cons (OpS.V _ rfl) ?_
      refine .cons (OpS.V _ rfl) ?_
      refine .cons (OpS.V (.d (.one (.v (.bool false)))) (evb (decide_eq_false (Int.not_lt.2 (cmpQ_le.2 (Rat.le_trans (cmpQ_le.1 hc1) (cmpQ_le.1 hc2))))))) ?_
      refine .cons (OpS.V _ rfl) ?_
      refine .cons (OpS.V _ rfl) ?_
      refine .cons (OpS.V _ rfl) ?_
      refine .cons (OpS.V (.d (.agg ([.v (.bool s1), lr 3 (xs1.take 3)] ++ [.v (.bool t1), lr 3 (ys1.take 3)]))) rfl) ?_
      refine .cons (OpS.V (.d (.agg ([.v (.bool s3), lr 3 (xs3.take 3)] ++ [.v (.bool t3), lr 3 (ys3.take 3)]))) rfl) ?_
      refine .cons (OpS.C0 (aTAdd (⟨s1, (xs1.take 3), t1, (ys1.take 3), fun _ _ _ h => h, rfl, rfl⟩ : IsT ([.v (.bool s1), lr 3 (xs1.take 3)] ++ [.v (.bool t1), lr 3 (ys1.take 3)]) 3 (zv s1 (val (xs1.take 3))) (zv t1 (val (ys1.take 3)))) (⟨s3, (xs3.take 3), t3, (ys3.take 3), fun _ _ _ h => h, rfl, rfl⟩ : IsT ([.v (.bool s3), lr 3 (xs3.take 3)] ++ [.v (.bool t3), lr 3 (ys3.take 3)]) 3 (zv s3 (val (xs3.take 3))) (zv t3 (val (ys3.take 3)))) (M := 10) (by decide) (by decide)) rfl rfl rfl) ?_
      refine .cons (OpS.V (.d (.agg ([.v (.bool s2), lr 3 (xs2.take 3)] ++ [.v (.bool t2), lr 3 (ys2.take 3)]))) rfl) ?_
      refine .cons (OpS.V (.d (.agg ([.v (.bool s3), lr 3 (xs3.take 3)] ++ [.v (.bool t3), lr 3 (ys3.take 3)]))) rfl) ?_
      refine .cons (OpS.C0 (aTAdd (⟨s2, (xs2.take 3), t2, (ys2.take 3), fun _ _ _ h => h, rfl, rfl⟩ : IsT ([.v (.bool s2), lr 3 (xs2.take 3)] ++ [.v (.bool t2), lr 3 (ys2.take 3)]) 3 (zv s2 (val (xs2.take 3))) (zv t2 (val (ys2.take 3)))) (⟨s3, (xs3.take 3), t3, (ys3.take 3), fun _ _ _ h => h, rfl, rfl⟩ : IsT ([.v (.bool s3), lr 3 (xs3.take 3)] ++ [.v (.bool t3), lr 3 (ys3.take 3)]) 3 (zv s3 (val (xs3.take 3))) (zv t3 (val (ys3.take 3)))) (M := 10) (by decide) (by decide)) rfl rfl rfl) ?_
      refine .cons (OpS.C0 (aTCmp (ist_tn 10 ((mkR (zv s1 (val (xs1.take 3))) (zv t1 (val (ys1.take 3)))) + (mkR (zv s3 (val (xs3.take 3))) (zv t3 (val (ys3.take 3)))))) (ist_tn 10 ((mkR (zv s2 (val (xs2.take 3))) (zv t2 (val (ys2.take 3)))) + (mkR (zv s3 (val (xs3.take 3))) (zv t3 (val (ys3.take 3)))))) (by decide) (by decide)) rfl rfl rfl) ?_
      refine .cons (OpS.V _ rfl) ?_
      refine .cons (OpS.V (.d (.one (.v (.bool false)))) (evb (bne_eq_false_iff_eq.2 (by simp only [mkR_self]; exact cmpQ_add _ _ _)))) ?_
      refine .cons (OpS.V _ rfl) ?_
      refine .cons (OpS.V _ rfl) ?_
      refine .cons (OpS.V (.d (.agg ([.v (.bool s1), lr 3 (xs1.take 3)] ++ [.v (.bool t1), lr 3 (ys1.take 3)]))) rfl) ?_
      refine .cons (OpS.C0 (aTNeg (⟨s1, (xs1.take 3), t1, (ys1.take 3), fun _ _ _ h => h, rfl, rfl⟩ : IsT ([.v (.bool s1), lr 3 (xs1.take 3)] ++ [.v (.bool t1), lr 3 (ys1.take 3)]) 3 (zv s1 (val (xs1.take 3))) (zv t1 (val (ys1.take 3)))) (M := 4) (by decide) (by decide)) rfl rfl rfl) ?_
      refine .cons (OpS.V (.d (.agg ([.v (.bool s2), lr 3 (xs2.take 3)] ++ [.v (.bool t2), lr 3 (ys2.take 3)]))) rfl) ?_
      refine .cons (OpS.C0 (aTNeg (⟨s2, (xs2.take 3), t2, (ys2.take 3), fun _ _ _ h => h, rfl, rfl⟩ : IsT ([.v (.bool s2), lr 3 (xs2.take 3)] ++ [.v (.bool t2), lr 3 (ys2.take 3)]) 3 (zv s2 (val (xs2.take 3))) (zv t2 (val (ys2.take 3)))) (M := 4) (by decide) (by decide)) rfl rfl rfl) ?_
      refine .cons (OpS.C0 (aTCmp (ist_tn 4 (-(mkR (zv s1 (val (xs1.take 3))) (zv t1 (val (ys1.take 3)))))) (ist_tn 4 (-(mkR (zv s2 (val (xs2.take 3))) (zv t2 (val (ys2.take 3)))))) (by decide) (by decide)) rfl rfl rfl) ?_
      refine .cons (OpS.V _ rfl) ?_
      refine .cons (OpS.V (.d (.one (.v (.int .i64 (-(cmpQ (mkR (zv s1 (val (xs1.take 3))) (zv t1 (val (ys1.take 3)))) (mkR (zv s2 (val (xs2.take 3))) (zv t2 (val (ys2.take 3)))))))))) (evi ((wr64 (by omega) (by omega)).trans (by omega)))) ?_
      refine .cons (OpS.V (.d (.one (.v (.bool false)))) (evb (bne_eq_false_iff_eq.2 (by simp only [mkR_self]; exact cmpQ_neg _ _)))) ?_
      refine .cons (OpS.V _ rfl) ?_
      refine .nil ?_
      refine mNil ?_
      refine tN ?_
      refine cF rfl ?_
      refine cSkip ?_
      refine tN ?_
      refine cSeq ?_
      refine cReg ?_
      refine mV hTT (.d (.agg ([.v (.bool s1), lr 3 (xs1.take 3)] ++ [.v (.bool t1), lr 3 (ys1.take 3)]))) rfl ?_
      refine mV hTT (.d (.agg ([.v (.bool s2), lr 3 (xs2.take 3)] ++ [.v (.bool t2), lr 3 (ys2.take 3)]))) rfl ?_
      refine mV hTT (.d (.agg ([.v (.bool s3), lr 3 (xs3.take 3)] ++ [.v (.bool t3), lr 3 (ys3.take 3)]))) rfl ?_
      refine mB hTT (.d (.one (.row 4 2 (fun i' j' => (([.v (.bool s2), lr 3 (xs2.take 3)] ++ [.v (.bool t2), lr 3 (ys2.take 3)] ++ [.v (.bool s3), lr 3 (xs3.take 3)] ++ [.v (.bool t3), lr 3 (ys3.take 3)])[i' * 4 + j']?).getD (.v undef))))) rfl ?_
      refine mC0 (ACall.le (dl DV.same (dl (DV.l (trow2 (K := 3) (F := ((s2, xs2.take 3), (t2, ys2.take 3))) (G := ((s3, xs3.take 3), (t3, ys3.take 3))))) dl0)) AV.le.rfl (aTMaxs (⟨s1, (xs1.take 3), t1, (ys1.take 3), fun _ _ _ h => h, rfl, rfl⟩ : IsT ([.v (.bool s1), lr 3 (xs1.take 3)] ++ [.v (.bool t1), lr 3 (ys1.take 3)]) 3 (zv s1 (val (xs1.take 3))) (zv t1 (val (ys1.take 3)))) (L := 3) (n0 := 2) (f := (fun i : Nat => if i = 0 then ((s2, xs2.take 3), (t2, ys2.take 3)) else ((s3, xs3.take 3), (t3, ys3.take 3)))) (M := 4) (by decide) (by decide) (by decide))) rfl rfl rfl ?_
      refine mN hTT (.box 27 ([.v (.bool false), .v (.slice none 0 0), .v (.bool false), .v (.slice none 0 0)])) rfl rfl rfl ?_
      refine mS hTT 10 (.box 27 (tn 4 (tmax (mkR (zv s1 (val (xs1.take 3))) (zv t1 (val (ys1.take 3)))) (fq (fun i : Nat => if i = 0 then ((s2, xs2.take 3), (t2, ys2.take 3)) else ((s3, xs3.take 3), (t3, ys3.take 3)))) 2))) rfl ?_
      refine mNil ?_
      refine tN ?_
      refine cSeq ?_
      obtain ⟨hm1, hm2, hm3⟩ := tmax_ge (mkR (zv s1 (val (xs1.take 3))) (zv t1 (val (ys1.take 3)))) (fq (fun i : Nat => if i = 0 then ((s2, xs2.take 3), (t2, ys2.take 3)) else ((s3, xs3.take 3), (t3, ys3.take 3)))) 2
      have hm20 : (mkR (zv s2 (val (xs2.take 3))) (zv t2 (val (ys2.take 3)))) ≤ (tmax (mkR (zv s1 (val (xs1.take 3))) (zv t1 (val (ys1.take 3)))) (fq (fun i : Nat => if i = 0 then ((s2, xs2.take 3), (t2, ys2.take 3)) else ((s3, xs3.take 3), (t3, ys3.take 3)))) 2) := hm2 0 (by decide)
      have hm21 : (mkR (zv s3 (val (xs3.take 3))) (zv t3 (val (ys3.take 3)))) ≤ (tmax (mkR (zv s1 (val (xs1.take 3))) (zv t1 (val (ys1.take 3)))) (fq (fun i : Nat => if i = 0 then ((s2, xs2.take 3), (t2, ys2.take 3)) else ((s3, xs3.take 3), (t3, ys3.take 3)))) 2) := hm2 1 (by decide)
      have hm4 : (tmax (mkR (zv s1 (val (xs1.take 3))) (zv t1 (val (ys1.take 3)))) (fq (fun i : Nat => if i = 0 then ((s2, xs2.take 3), (t2, ys2.take 3)) else ((s3, xs3.take 3), (t3, ys3.take 3)))) 2) = (mkR (zv s1 (val (xs1.take 3))) (zv t1 (val (ys1.take 3)))) ∨ (tmax (mkR (zv s1 (val (xs1.take 3))) (zv t1 (val (ys1.take 3)))) (fq (fun i : Nat => if i = 0 then ((s2, xs2.take 3), (t2, ys2.take 3)) else ((s3, xs3.take 3), (t3, ys3.take 3)))) 2) = (mkR (zv s2 (val (xs2.take 3))) (zv t2 (val (ys2.take 3)))) ∨ (tmax (mkR (zv s1 (val (xs1.take 3))) (zv t1 (val (ys1.take 3)))) (fq (fun i : Nat => if i = 0 then ((s2, xs2.take 3), (t2, ys2.take 3)) else ((s3, xs3.take 3), (t3, ys3.take 3)))) 2) = (mkR (zv s3 (val (xs3.take 3))) (zv t3 (val (ys3.take 3)))) := by rcases hm3 with h | ⟨i, hi, h⟩; exact Or.inl h; match i, hi with | 0, _ => exact Or.inr (Or.inl h) | 1, _ => exact Or.inr (Or.inr h)
      by_cases e1 : (tmax (mkR (zv s1 (val (xs1.take 3))) (zv t1 (val (ys1.take 3)))) (fq (fun i : Nat => if i = 0 then ((s2, xs2.take 3), (t2, ys2.take 3)) else ((s3, xs3.take 3), (t3, ys3.take 3)))) 2) = (mkR (zv s1 (val (xs1.take 3))) (zv t1 (val (ys1.take 3))))
      · skip
        refine cReg ?_
        refine mV hTT (.d (.agg (tn 4 (tmax (mkR (zv s1 (val (xs1.take 3))) (zv t1 (val (ys1.take 3)))) (fq (fun i : Nat => if i = 0 then ((s2, xs2.take 3), (t2, ys2.take 3)) else ((s3, xs3.take 3), (t3, ys3.take 3)))) 2)))) rfl ?_
        refine mV hTT (.d (.agg ([.v (.bool s1), lr 3 (xs1.take 3)] ++ [.v (.bool t1), lr 3 (ys1.take 3)]))) rfl ?_
        refine mC0 (aTCmp (ist_tn 4 (tmax (mkR (zv s1 (val (xs1.take 3))) (zv t1 (val (ys1.take 3)))) (fq (fun i : Nat => if i = 0 then ((s2, xs2.take 3), (t2, ys2.take 3)) else ((s3, xs3.take 3), (t3, ys3.take 3)))) 2)) (⟨s1, (xs1.take 3), t1, (ys1.take 3), fun _ _ _ h => h, rfl, rfl⟩ : IsT ([.v (.bool s1), lr 3 (xs1.take 3)] ++ [.v (.bool t1), lr 3 (ys1.take 3)]) 3 (zv s1 (val (xs1.take 3))) (zv t1 (val (ys1.take 3)))) (by decide) (by decide)) rfl rfl rfl ?_
        refine mV hTT (.d (.one (.v (.bool true)))) (evb (decide_eq_true (cmpQ_ge.2 (by simp only [mkR_self]; exact hm1)))) ?_
        refine mV hTT _ rfl ?_
        refine mV hTT (.d (.agg (tn 4 (tmax (mkR (zv s1 (val (xs1.take 3))) (zv t1 (val (ys1.take 3)))) (fq (fun i : Nat => if i = 0 then ((s2, xs2.take 3), (t2, ys2.take 3)) else ((s3, xs3.take 3), (t3, ys3.take 3)))) 2)))) rfl ?_
        refine mV hTT (.d (.agg ([.v (.bool s2), lr 3 (xs2.take 3)] ++ [.v (.bool t2), lr 3 (ys2.take 3)]))) rfl ?_
        refine mC0 (aTCmp (ist_tn 4 (tmax (mkR (zv s1 (val (xs1.take 3))) (zv t1 (val (ys1.take 3)))) (fq (fun i : Nat => if i = 0 then ((s2, xs2.take 3), (t2, ys2.take 3)) else ((s3, xs3.take 3), (t3, ys3.take 3)))) 2)) (⟨s2, (xs2.take 3), t2, (ys2.take 3), fun _ _ _ h => h, rfl, rfl⟩ : IsT ([.v (.bool s2), lr 3 (xs2.take 3)] ++ [.v (.bool t2), lr 3 (ys2.take 3)]) 3 (zv s2 (val (xs2.take 3))) (zv t2 (val (ys2.take 3)))) (by decide) (by decide)) rfl rfl rfl ?_
        refine mV hTT (.d (.one (.v (.bool true)))) (evb (decide_eq_true (cmpQ_ge.2 (by simp only [mkR_self]; exact hm20)))) ?_
        refine mV hTT _ rfl ?_
        refine mV hTT _ rfl ?_
        refine mV hTT (.d (.agg (tn 4 (tmax (mkR (zv s1 (val (xs1.take 3))) (zv t1 (val (ys1.take 3)))) (fq (fun i : Nat => if i = 0 then ((s2, xs2.take 3), (t2, ys2.take 3)) else ((s3, xs3.take 3), (t3, ys3.take 3)))) 2)))) rfl ?_
        refine mV hTT (.d (.agg ([.v (.bool s3), lr 3 (xs3.take 3)] ++ [.v (.bool t3), lr 3 (ys3.take 3)]))) rfl ?_
        refine mC0 (aTCmp (ist_tn 4 (tmax (mkR (zv s1 (val (xs1.take 3))) (zv t1 (val (ys1.take 3)))) (fq (fun i : Nat => if i = 0 then ((s2, xs2.take 3), (t2, ys2.take 3)) else ((s3, xs3.take 3), (t3, ys3.take 3)))) 2)) (⟨s3, (xs3.take 3), t3, (ys3.take 3), fun _ _ _ h => h, rfl, rfl⟩ : IsT ([.v (.bool s3), lr 3 (xs3.take 3)] ++ [.v (.bool t3), lr 3 (ys3.take 3)]) 3 (zv s3 (val (xs3.take 3))) (zv t3 (val (ys3.take 3)))) (by decide) (by decide)) rfl rfl rfl ?_
        refine mV hTT (.d (.one (.v (.bool true)))) (evb (decide_eq_true (cmpQ_ge.2 (by simp only [mkR_self]; exact hm21)))) ?_
        refine mV hTT _ rfl ?_
        refine mV hTT _ rfl ?_
        refine mV hTT (.d (.agg (tn 4 (tmax (mkR (zv s1 (val (xs1.take 3))) (zv t1 (val (ys1.take 3)))) (fq (fun i : Nat => if i = 0 then ((s2, xs2.take 3), (t2, ys2.take 3)) else ((s3, xs3.take 3), (t3, ys3.take 3)))) 2)))) rfl ?_
        refine mV hTT (.d (.agg ([.v (.bool s1), lr 3 (xs1.take 3)] ++ [.v (.bool t1), lr 3 (ys1.take 3)]))) rfl ?_
        refine mC0 (aTCmp (ist_tn 4 (tmax (mkR (zv s1 (val (xs1.take 3))) (zv t1 (val (ys1.take 3)))) (fq (fun i : Nat => if i = 0 then ((s2, xs2.take 3), (t2, ys2.take 3)) else ((s3, xs3.take 3), (t3, ys3.take 3)))) 2)) (⟨s1, (xs1.take 3), t1, (ys1.take 3), fun _ _ _ h => h, rfl, rfl⟩ : IsT ([.v (.bool s1), lr 3 (xs1.take 3)] ++ [.v (.bool t1), lr 3 (ys1.take 3)]) 3 (zv s1 (val (xs1.take 3))) (zv t1 (val (ys1.take 3)))) (by decide) (by decide)) rfl rfl rfl ?_
        refine mV hTT (.d (.one (.v (.bool true)))) (evb (beq_iff_eq.2 (cmpQ_eq (by simp only [mkR_self]; exact e1)))) ?_
        refine mV hTT _ rfl ?_
        refine mG rfl rfl ?_
        refine mG rfl rfl ?_
        refine mG rfl rfl ?_
        refine mG rfl rfl ?_
        refine mV hTT _ rfl ?_
        refine mV hTT _ rfl ?_
        refine mG rfl rfl ?_
        refine mG rfl rfl ?_
        refine mG rfl rfl ?_
        refine mG rfl rfl ?_
        refine mV hTT _ rfl ?_
        refine mV hTT _ rfl ?_
        refine mV hTT _ rfl ?_
        refine mV hTT (.d (.agg ([.v (.bool s1), lr 3 (xs1.take 3)] ++ [.v (.bool t1), lr 3 (ys1.take 3)]))) rfl ?_
        refine mV hTT (.d (.agg ([.v (.bool s2), lr 3 (xs2.take 3)] ++ [.v (.bool t2), lr 3 (ys2.take 3)]))) rfl ?_
        refine mC0 (aTSub (⟨s1, (xs1.take 3), t1, (ys1.take 3), fun _ _ _ h => h, rfl, rfl⟩ : IsT ([.v (.bool s1), lr 3 (xs1.take 3)] ++ [.v (.bool t1), lr 3 (ys1.take 3)]) 3 (zv s1 (val (xs1.take 3))) (zv t1 (val (ys1.take 3)))) (⟨s2, (xs2.take 3), t2, (ys2.take 3), fun _ _ _ h => h, rfl, rfl⟩ : IsT ([.v (.bool s2), lr 3 (xs2.take 3)] ++ [.v (.bool t2), lr 3 (ys2.take 3)]) 3 (zv s2 (val (xs2.take 3))) (zv t2 (val (ys2.take 3)))) (M := 10) (by decide) (by decide)) rfl rfl rfl ?_
        refine mV hTT (.d (.agg (zn 10 (Rat.num ((mkR (zv s1 (val (xs1.take 3))) (zv t1 (val (ys1.take 3)))) - (mkR (zv s2 (val (xs2.take 3))) (zv t2 (val (ys2.take 3))))))))) rfl ?_
        refine mC0 (aSign (isn 10 (Rat.num ((mkR (zv s1 (val (xs1.take 3))) (zv t1 (val (ys1.take 3)))) - (mkR (zv s2 (val (xs2.take 3))) (zv t2 (val (ys2.take 3)))))))) rfl rfl rfl ?_
        refine mV hTT _ rfl ?_
        refine mV hTT (.d (.one (.v (.bool true)))) (evb (beq_iff_eq.2 (by exact sgn_sub _ _))) ?_
        refine mV hTT _ rfl ?_
        refine mV hTT _ rfl ?_
        refine mC0 (aWakes4) rfl rfl rfl ?_
        refine mV hTT _ rfl ?_
        refine mV hTT _ rfl ?_
        refine mNil ?_
        refine tN ?_
        refine cRet ?_
        exact rQ rfl (AV.le.rfl)
      · skip
        by_cases e2 : (tmax (mkR (zv s1 (val (xs1.take 3))) (zv t1 (val (ys1.take 3)))) (fq (fun i : Nat => if i = 0 then ((s2, xs2.take 3), (t2, ys2.take 3)) else ((s3, xs3.take 3), (t3, ys3.take 3)))) 2) = (mkR (zv s2 (val (xs2.take 3))) (zv t2 (val (ys2.take 3))))
        · skip
          refine cReg ?_
          refine mV hTT (.d (.agg (tn 4 (tmax (mkR (zv s1 (val (xs1.take 3))) (zv t1 (val (ys1.take 3)))) (fq (fun i : Nat => if i = 0 then ((s2, xs2.take 3), (t2, ys2.take 3)) else ((s3, xs3.take 3), (t3, ys3.take 3)))) 2)))) rfl ?_
          refine mV hTT (.d (.agg ([.v (.bool s1), lr 3 (xs1.take 3)] ++ [.v (.bool t1), lr 3 (ys1.take 3)]))) rfl ?_
          refine mC0 (aTCmp (ist_tn 4 (tmax (mkR (zv s1 (val (xs1.take 3))) (zv t1 (val (ys1.take 3)))) (fq (fun i : Nat => if i = 0 then ((s2, xs2.take 3), (t2, ys2.take 3)) else ((s3, xs3.take 3), (t3, ys3.take 3)))) 2)) (⟨s1, (xs1.take 3), t1, (ys1.take 3), fun _ _ _ h => h, rfl, rfl⟩ : IsT ([.v (.bool s1), lr 3 (xs1.take 3)] ++ [.v (.bool t1), lr 3 (ys1.take 3)]) 3 (zv s1 (val (xs1.take 3))) (zv t1 (val (ys1.take 3)))) (by decide) (by decide)) rfl rfl rfl ?_
          refine mV hTT (.d (.one (.v (.bool true)))) (evb (decide_eq_true (cmpQ_ge.2 (by simp only [mkR_self]; exact hm1)))) ?_
          refine mV hTT _ rfl ?_
          refine mV hTT (.d (.agg (tn 4 (tmax (mkR (zv s1 (val (xs1.take 3))) (zv t1 (val (ys1.take 3)))) (fq (fun i : Nat => if i = 0 then ((s2, xs2.take 3), (t2, ys2.take 3)) else ((s3, xs3.take 3), (t3, ys3.take 3)))) 2)))) rfl ?_
          refine mV hTT (.d (.agg ([.v (.bool s2), lr 3 (xs2.take 3)] ++ [.v (.bool t2), lr 3 (ys2.take 3)]))) rfl ?_
          refine mC0 (aTCmp (ist_tn 4 (tmax (mkR (zv s1 (val (xs1.take 3))) (zv t1 (val (ys1.take 3)))) (fq (fun i : Nat => if i = 0 then ((s2, xs2.take 3), (t2, ys2.take 3)) else ((s3, xs3.take 3), (t3, ys3.take 3)))) 2)) (⟨s2, (xs2.take 3), t2, (ys2.take 3), fun _ _ _ h => h, rfl, rfl⟩ : IsT ([.v (.bool s2), lr 3 (xs2.take 3)] ++ [.v (.bool t2), lr 3 (ys2.take 3)]) 3 (zv s2 (val (xs2.take 3))) (zv t2 (val (ys2.take 3)))) (by decide) (by decide)) rfl rfl rfl ?_
          refine mV hTT (.d (.one (.v (.bool true)))) (evb (decide_eq_true (cmpQ_ge.2 (by simp only [mkR_self]; exact hm20)))) ?_
          refine mV hTT _ rfl ?_
          refine mV hTT _ rfl ?_
          refine mV hTT (.d (.agg (tn 4 (tmax (mkR (zv s1 (val (xs1.take 3))) (zv t1 (val (ys1.take 3)))) (fq (fun i : Nat => if i = 0 then ((s2, xs2.take 3), (t2, ys2.take 3)) else ((s3, xs3.take 3), (t3, ys3.take 3)))) 2)))) rfl ?_
          refine mV hTT (.d (.agg ([.v (.bool s3), lr 3 (xs3.take 3)] ++ [.v (.bool t3), lr 3 (ys3.take 3)]))) rfl ?_
          refine mC0 (aTCmp (ist_tn 4 (tmax (mkR (zv s1 (val (xs1.take 3))) (zv t1 (val (ys1.take 3)))) (fq (fun i : Nat => if i = 0 then ((s2, xs2.take 3), (t2, ys2.take 3)) else ((s3, xs3.take 3), (t3, ys3.take 3)))) 2)) (⟨s3, (xs3.take 3), t3, (ys3.take 3), fun _ _ _ h => h, rfl, rfl⟩ : IsT ([.v (.bool s3), lr 3 (xs3.take 3)] ++ [.v (.bool t3), lr 3 (ys3.take 3)]) 3 (zv s3 (val (xs3.take 3))) (zv t3 (val (ys3.take 3)))) (by decide) (by decide)) rfl rfl rfl ?_
          refine mV hTT (.d (.one (.v (.bool true)))) (evb (decide_eq_true (cmpQ_ge.2 (by simp only [mkR_self]; exact hm21)))) ?_
          refine mV hTT _ rfl ?_
          refine mV hTT _ rfl ?_
          refine mV hTT (.d (.agg (tn 4 (tmax (mkR (zv s1 (val (xs1.take 3))) (zv t1 (val (ys1.take 3)))) (fq (fun i : Nat => if i = 0 then ((s2, xs2.take 3), (t2, ys2.take 3)) else ((s3, xs3.take 3), (t3, ys3.take 3)))) 2)))) rfl ?_
          refine mV hTT (.d (.agg ([.v (.bool s1), lr 3 (xs1.take 3)] ++ [.v (.bool t1), lr 3 (ys1.take 3)]))) rfl ?_
          refine mC0 (aTCmp (ist_tn 4 (tmax (mkR (zv s1 (val (xs1.take 3))) (zv t1 (val (ys1.take 3)))) (fq (fun i : Nat => if i = 0 then ((s2, xs2.take 3), (t2, ys2.take 3)) else ((s3, xs3.take 3), (t3, ys3.take 3)))) 2)) (⟨s1, (xs1.take 3), t1, (ys1.take 3), fun _ _ _ h => h, rfl, rfl⟩ : IsT ([.v (.bool s1), lr 3 (xs1.take 3)] ++ [.v (.bool t1), lr 3 (ys1.take 3)]) 3 (zv s1 (val (xs1.take 3))) (zv t1 (val (ys1.take 3)))) (by decide) (by decide)) rfl rfl rfl ?_
          refine mV hTT (.d (.one (.v (.bool false)))) (evb (beq_eq_false_iff_ne.2 (fun h => e1 (by have h2 := cmpQ_zero.1 h; simp only [mkR_self] at h2; exact h2)))) ?_
          refine mV hTT _ rfl ?_
          refine mV hTT (.d (.agg (tn 4 (tmax (mkR (zv s1 (val (xs1.take 3))) (zv t1 (val (ys1.take 3)))) (fq (fun i : Nat => if i = 0 then ((s2, xs2.take 3), (t2, ys2.take 3)) else ((s3, xs3.take 3), (t3, ys3.take 3)))) 2)))) rfl ?_
          refine mV hTT (.d (.agg ([.v (.bool s2), lr 3 (xs2.take 3)] ++ [.v (.bool t2), lr 3 (ys2.take 3)]))) rfl ?_
          refine mC0 (aTCmp (ist_tn 4 (tmax (mkR (zv s1 (val (xs1.take 3))) (zv t1 (val (ys1.take 3)))) (fq (fun i : Nat => if i = 0 then ((s2, xs2.take 3), (t2, ys2.take 3)) else ((s3, xs3.take 3), (t3, ys3.take 3)))) 2)) (⟨s2, (xs2.take 3), t2, (ys2.take 3), fun _ _ _ h => h, rfl, rfl⟩ : IsT ([.v (.bool s2), lr 3 (xs2.take 3)] ++ [.v (.bool t2), lr 3 (ys2.take 3)]) 3 (zv s2 (val (xs2.take 3))) (zv t2 (val (ys2.take 3)))) (by decide) (by decide)) rfl rfl rfl ?_
          refine mV hTT (.d (.one (.v (.bool true)))) (evb (beq_iff_eq.2 (cmpQ_eq (by simp only [mkR_self]; exact e2)))) ?_
          refine mV hTT _ rfl ?_
          refine mV hTT _ rfl ?_
          refine mG rfl rfl ?_
          refine mG rfl rfl ?_
          refine mG rfl rfl ?_
          refine mG rfl rfl ?_
          refine mV hTT _ rfl ?_
          refine mV hTT _ rfl ?_
          refine mV hTT _ rfl ?_
          refine mV hTT (.d (.agg ([.v (.bool s1), lr 3 (xs1.take 3)] ++ [.v (.bool t1), lr 3 (ys1.take 3)]))) rfl ?_
          refine mV hTT (.d (.agg ([.v (.bool s2), lr 3 (xs2.take 3)] ++ [.v (.bool t2), lr 3 (ys2.take 3)]))) rfl ?_
          refine mC0 (aTSub (⟨s1, (xs1.take 3), t1, (ys1.take 3), fun _ _ _ h => h, rfl, rfl⟩ : IsT ([.v (.bool s1), lr 3 (xs1.take 3)] ++ [.v (.bool t1), lr 3 (ys1.take 3)]) 3 (zv s1 (val (xs1.take 3))) (zv t1 (val (ys1.take 3)))) (⟨s2, (xs2.take 3), t2, (ys2.take 3), fun _ _ _ h => h, rfl, rfl⟩ : IsT ([.v (.bool s2), lr 3 (xs2.take 3)] ++ [.v (.bool t2), lr 3 (ys2.take 3)]) 3 (zv s2 (val (xs2.take 3))) (zv t2 (val (ys2.take 3)))) (M := 10) (by decide) (by decide)) rfl rfl rfl ?_
          refine mV hTT (.d (.agg (zn 10 (Rat.num ((mkR (zv s1 (val (xs1.take 3))) (zv t1 (val (ys1.take 3)))) - (mkR (zv s2 (val (xs2.take 3))) (zv t2 (val (ys2.take 3))))))))) rfl ?_
          refine mC0 (aSign (isn 10 (Rat.num ((mkR (zv s1 (val (xs1.take 3))) (zv t1 (val (ys1.take 3)))) - (mkR (zv s2 (val (xs2.take 3))) (zv t2 (val (ys2.take 3)))))))) rfl rfl rfl ?_
          refine mV hTT _ rfl ?_
          refine mV hTT (.d (.one (.v (.bool true)))) (evb (beq_iff_eq.2 (by exact sgn_sub _ _))) ?_
          refine mV hTT _ rfl ?_
          refine mV hTT _ rfl ?_
          refine mC0 (aWakes4) rfl rfl rfl ?_
          refine mV hTT _ rfl ?_
          refine mV hTT _ rfl ?_
          refine mNil ?_
          refine tN ?_
          refine cRet ?_
          exact rQ rfl (AV.le.rfl)
        · skip
          have e3 := (hm4.resolve_left e1).resolve_left e2
          refine cReg ?_
          refine mV hTT (.d (.agg (tn 4 (tmax (mkR (zv s1 (val (xs1.take 3))) (zv t1 (val (ys1.take 3)))) (fq (fun i : Nat => if i = 0 then ((s2, xs2.take 3), (t2, ys2.take 3)) else ((s3, xs3.take 3), (t3, ys3.take 3)))) 2)))) rfl ?_
          refine mV hTT (.d (.agg ([.v (.bool s1), lr 3 (xs1.take 3)] ++ [.v (.bool t1), lr 3 (ys1.take 3)]))) rfl ?_
          refine mC0 (aTCmp (ist_tn 4 (tmax (mkR (zv s1 (val (xs1.take 3))) (zv t1 (val (ys1.take 3)))) (fq (fun i : Nat => if i = 0 then ((s2, xs2.take 3), (t2, ys2.take 3)) else ((s3, xs3.take 3), (t3, ys3.take 3)))) 2)) (⟨s1, (xs1.take 3), t1, (ys1.take 3), fun _ _ _ h => h, rfl, rfl⟩ : IsT ([.v (.bool s1), lr 3 (xs1.take 3)] ++ [.v (.bool t1), lr 3 (ys1.take 3)]) 3 (zv s1 (val (xs1.take 3))) (zv t1 (val (ys1.take 3)))) (by decide) (by decide)) rfl rfl rfl ?_
          refine mV hTT (.d (.one (.v (.bool true)))) (evb (decide_eq_true (cmpQ_ge.2 (by simp only [mkR_self]; exact hm1)))) ?_
          refine mV hTT _ rfl ?_
          refine mV hTT (.d (.agg (tn 4 (tmax (mkR (zv s1 (val (xs1.take 3))) (zv t1 (val (ys1.take 3)))) (fq (fun i : Nat => if i = 0 then ((s2, xs2.take 3), (t2, ys2.take 3)) else ((s3, xs3.take 3), (t3, ys3.take 3)))) 2)))) rfl ?_
          refine mV hTT (.d (.agg ([.v (.bool s2), lr 3 (xs2.take 3)] ++ [.v (.bool t2), lr 3 (ys2.take 3)]))) rfl ?_
          refine mC0 (aTCmp (ist_tn 4 (tmax (mkR (zv s1 (val (xs1.take 3))) (zv t1 (val (ys1.take 3)))) (fq (fun i : Nat => if i = 0 then ((s2, xs2.take 3), (t2, ys2.take 3)) else ((s3, xs3.take 3), (t3, ys3.take 3)))) 2)) (⟨s2, (xs2.take 3), t2, (ys2.take 3), fun _ _ _ h => h, rfl, rfl⟩ : IsT ([.v (.bool s2), lr 3 (xs2.take 3)] ++ [.v (.bool t2), lr 3 (ys2.take 3)]) 3 (zv s2 (val (xs2.take 3))) (zv t2 (val (ys2.take 3)))) (by decide) (by decide)) rfl rfl rfl ?_
          refine mV hTT (.d (.one (.v (.bool true)))) (evb (decide_eq_true (cmpQ_ge.2 (by simp only [mkR_self]; exact hm20)))) ?_
          refine mV hTT _ rfl ?_
          refine mV hTT _ rfl ?_
          refine mV hTT (.d (.agg (tn 4 (tmax (mkR (zv s1 (val (xs1.take 3))) (zv t1 (val (ys1.take 3)))) (fq (fun i : Nat => if i = 0 then ((s2, xs2.take 3), (t2, ys2.take 3)) else ((s3, xs3.take 3), (t3, ys3.take 3)))) 2)))) rfl ?_
          refine mV hTT (.d (.agg ([.v (.bool s3), lr 3 (xs3.take 3)] ++ [.v (.bool t3), lr 3 (ys3.take 3)]))) rfl ?_
          refine mC0 (aTCmp (ist_tn 4 (tmax (mkR (zv s1 (val (xs1.take 3))) (zv t1 (val (ys1.take 3)))) (fq (fun i : Nat => if i = 0 then ((s2, xs2.take 3), (t2, ys2.take 3)) else ((s3, xs3.take 3), (t3, ys3.take 3)))) 2)) (⟨s3, (xs3.take 3), t3, (ys3.take 3), fun _ _ _ h => h, rfl, rfl⟩ : IsT ([.v (.bool s3), lr 3 (xs3.take 3)] ++ [.v (.bool t3), lr 3 (ys3.take 3)]) 3 (zv s3 (val (xs3.take 3))) (zv t3 (val (ys3.take 3)))) (by decide) (by decide)) rfl rfl rfl ?_
          refine mV hTT (.d (.one (.v (.bool true)))) (evb (decide_eq_true (cmpQ_ge.2 (by simp only [mkR_self]; exact hm21)))) ?_
          refine mV hTT _ rfl ?_
          refine mV hTT _ rfl ?_
          refine mV hTT (.d (.agg (tn 4 (tmax (mkR (zv s1 (val (xs1.take 3))) (zv t1 (val (ys1.take 3)))) (fq (fun i : Nat => if i = 0 then ((s2, xs2.take 3), (t2, ys2.take 3)) else ((s3, xs3.take 3), (t3, ys3.take 3)))) 2)))) rfl ?_
          refine mV hTT (.d (.agg ([.v (.bool s1), lr 3 (xs1.take 3)] ++ [.v (.bool t1), lr 3 (ys1.take 3)]))) rfl ?_
          refine mC0 (aTCmp (ist_tn 4 (tmax (mkR (zv s1 (val (xs1.take 3))) (zv t1 (val (ys1.take 3)))) (fq (fun i : Nat => if i = 0 then ((s2, xs2.take 3), (t2, ys2.take 3)) else ((s3, xs3.take 3), (t3, ys3.take 3)))) 2)) (⟨s1, (xs1.take 3), t1, (ys1.take 3), fun _ _ _ h => h, rfl, rfl⟩ : IsT ([.v (.bool s1), lr 3 (xs1.take 3)] ++ [.v (.bool t1), lr 3 (ys1.take 3)]) 3 (zv s1 (val (xs1.take 3))) (zv t1 (val (ys1.take 3)))) (by decide) (by decide)) rfl rfl rfl ?_
          refine mV hTT (.d (.one (.v (.bool false)))) (evb (beq_eq_false_iff_ne.2 (fun h => e1 (by have h2 := cmpQ_zero.1 h; simp only [mkR_self] at h2; exact h2)))) ?_
          refine mV hTT _ rfl ?_
          refine mV hTT (.d (.agg (tn 4 (tmax (mkR (zv s1 (val (xs1.take 3))) (zv t1 (val (ys1.take 3)))) (fq (fun i : Nat => if i = 0 then ((s2, xs2.take 3), (t2, ys2.take 3)) else ((s3, xs3.take 3), (t3, ys3.take 3)))) 2)))) rfl ?_
          refine mV hTT (.d (.agg ([.v (.bool s2), lr 3 (xs2.take 3)] ++ [.v (.bool t2), lr 3 (ys2.take 3)]))) rfl ?_
          refine mC0 (aTCmp (ist_tn 4 (tmax (mkR (zv s1 (val (xs1.take 3))) (zv t1 (val (ys1.take 3)))) (fq (fun i : Nat => if i = 0 then ((s2, xs2.take 3), (t2, ys2.take 3)) else ((s3, xs3.take 3), (t3, ys3.take 3)))) 2)) (⟨s2, (xs2.take 3), t2, (ys2.take 3), fun _ _ _ h => h, rfl, rfl⟩ : IsT ([.v (.bool s2), lr 3 (xs2.take 3)] ++ [.v (.bool t2), lr 3 (ys2.take 3)]) 3 (zv s2 (val (xs2.take 3))) (zv t2 (val (ys2.take 3)))) (by decide) (by decide)) rfl rfl rfl ?_
          refine mV hTT (.d (.one (.v (.bool false)))) (evb (beq_eq_false_iff_ne.2 (fun h => e2 (by have h2 := cmpQ_zero.1 h; simp only [mkR_self] at h2; exact h2)))) ?_
          refine mV hTT _ rfl ?_
          refine mV hTT _ rfl ?_
          refine mV hTT (.d (.agg (tn 4 (tmax (mkR (zv s1 (val (xs1.take 3))) (zv t1 (val (ys1.take 3)))) (fq (fun i : Nat => if i = 0 then ((s2, xs2.take 3), (t2, ys2.take 3)) else ((s3, xs3.take 3), (t3, ys3.take 3)))) 2)))) rfl ?_
          refine mV hTT (.d (.agg ([.v (.bool s3), lr 3 (xs3.take 3)] ++ [.v (.bool t3), lr 3 (ys3.take 3)]))) rfl ?_
          refine mC0 (aTCmp (ist_tn 4 (tmax (mkR (zv s1 (val (xs1.take 3))) (zv t1 (val (ys1.take 3)))) (fq (fun i : Nat => if i = 0 then ((s2, xs2.take 3), (t2, ys2.take 3)) else ((s3, xs3.take 3), (t3, ys3.take 3)))) 2)) (⟨s3, (xs3.take 3), t3, (ys3.take 3), fun _ _ _ h => h, rfl, rfl⟩ : IsT ([.v (.bool s3), lr 3 (xs3.take 3)] ++ [.v (.bool t3), lr 3 (ys3.take 3)]) 3 (zv s3 (val (xs3.take 3))) (zv t3 (val (ys3.take 3)))) (by decide) (by decide)) rfl rfl rfl ?_
          refine mV hTT (.d (.one (.v (.bool true)))) (evb (beq_iff_eq.2 (cmpQ_eq (by simp only [mkR_self]; exact e3)))) ?_
          refine mV hTT _ rfl ?_
          refine mV hTT _ rfl ?_
          refine mV hTT _ rfl ?_
          refine mV hTT (.d (.agg ([.v (.bool s1), lr 3 (xs1.take 3)] ++ [.v (.bool t1), lr 3 (ys1.take 3)]))) rfl ?_
          refine mV hTT (.d (.agg ([.v (.bool s2), lr 3 (xs2.take 3)] ++ [.v (.bool t2), lr 3 (ys2.take 3)]))) rfl ?_
          refine mC0 (aTSub (⟨s1, (xs1.take 3), t1, (ys1.take 3), fun _ _ _ h => h, rfl, rfl⟩ : IsT ([.v (.bool s1), lr 3 (xs1.take 3)] ++ [.v (.bool t1), lr 3 (ys1.take 3)]) 3 (zv s1 (val (xs1.take 3))) (zv t1 (val (ys1.take 3)))) (⟨s2, (xs2.take 3), t2, (ys2.take 3), fun _ _ _ h => h, rfl, rfl⟩ : IsT ([.v (.bool s2), lr 3 (xs2.take 3)] ++ [.v (.bool t2), lr 3 (ys2.take 3)]) 3 (zv s2 (val (xs2.take 3))) (zv t2 (val (ys2.take 3)))) (M := 10) (by decide) (by decide)) rfl rfl rfl ?_
          refine mV hTT (.d (.agg (zn 10 (Rat.num ((mkR (zv s1 (val (xs1.take 3))) (zv t1 (val (ys1.take 3)))) - (mkR (zv s2 (val (xs2.take 3))) (zv t2 (val (ys2.take 3))))))))) rfl ?_
          refine mC0 (aSign (isn 10 (Rat.num ((mkR (zv s1 (val (xs1.take 3))) (zv t1 (val (ys1.take 3)))) - (mkR (zv s2 (val (xs2.take 3))) (zv t2 (val (ys2.take 3)))))))) rfl rfl rfl ?_
          refine mV hTT _ rfl ?_
          refine mV hTT (.d (.one (.v (.bool true)))) (evb (beq_iff_eq.2 (by exact sgn_sub _ _))) ?_
          refine mV hTT _ rfl ?_
          refine mV hTT _ rfl ?_
          refine mC0 (aWakes4) rfl rfl rfl ?_
          refine mV hTT _ rfl ?_
          refine mV hTT _ rfl ?_
          refine mNil ?_
          refine tN ?_
          refine cRet ?_
          exact rQ rfl (AV.le.rfl)
    · skip
      refine cDrawK hTT 39 (by kernel_rfl) (by kernel_rfl) (by kernel_rfl) ?_
      refine .cons (OpS.V _ rfl) ?_
      refine .cons (OpS.V (.d (.agg ([.v (.bool s2), lr 3 (xs2.take 3)] ++ [.v (.bool t2), lr 3 (ys2.take 3)]))) rfl) ?_
      refine .cons (OpS.V (.d (.agg ([.v (.bool s1), lr 3 (xs1.take 3)] ++ [.v (.bool t1), lr 3 (ys1.take 3)]))) rfl) ?_
      refine .cons (OpS.C0 (aTCmp (⟨s2, (xs2.take 3), t2, (ys2.take 3), fun _ _ _ h => h, rfl, rfl⟩ : IsT ([.v (.bool s2), lr 3 (xs2.take 3)] ++ [.v (.bool t2), lr 3 (ys2.take 3)]) 3 (zv s2 (val (xs2.take 3))) (zv t2 (val (ys2.take 3)))) (⟨s1, (xs1.take 3), t1, (ys1.take 3), fun _ _ _ h => h, rfl, rfl⟩ : IsT ([.v (.bool s1), lr 3 (xs1.take 3)] ++ [.v (.bool t1), lr 3 (ys1.take 3)]) 3 (zv s1 (val (xs1.take 3))) (zv t1 (val (ys1.take 3)))) (by decide) (by decide)) rfl rfl rfl) ?_
      refine .cons (OpS.V (.d (.one (.v (.int .i64 (-(cmpQ (mkR (zv s2 (val (xs2.take 3))) (zv t2 (val (ys2.take 3)))) (mkR (zv s1 (val (xs1.take 3))) (zv t1 (val (ys1.take 3)))))))))) (evi ((wr64 (by omega) (by omega)).trans (by omega)))) ?_
      refine .cons (OpS.V (.d (.one (.v (.bool false)))) (evb (bne_eq_false_iff_eq.2 (by rw [cmpQ_anti (mkR (zv s1 (val (xs1.take 3))) (zv t1 (val (ys1.take 3)))) (mkR (zv s2 (val (xs2.take 3))) (zv t2 (val (ys2.take 3))))]; omega)))) ?_
      refine .cons (OpS.V _ rfl) ?_
      refine .cons (OpS.V _ rfl) ?_
      refine .cons (OpS.V (.d (.one (.v (.bool true)))) (evb (decide_eq_true hc1))) ?_
      refine .cons (OpS.V _ rfl) ?_
      refine .cons (OpS.V _ rfl) ?_
      refine .cons (OpS.V (.d (.one (.v (.bool false)))) (evb (decide_eq_false hc2))) ?_
      refine .cons (OpS.V _ rfl) ?_
      refine .cons (OpS.V _ rfl) ?_
      refine .cons (OpS.G rfl rfl) ?_
      refine .cons (OpS.G rfl rfl) ?_
      refine .cons (OpS.V _ rfl) ?_
      refine .cons (OpS.V _ rfl) ?_
      refine .cons (OpS.V _ rfl) ?_
      refine .cons (OpS.V (.d (.agg ([.v (.bool s1), lr 3 (xs1.take 3)] ++ [.v (.bool t1), lr 3 (ys1.take 3)]))) rfl) ?_
      refine .cons (OpS.V (.d (.agg ([.v (.bool s3), lr 3 (xs3.take 3)] ++ [.v (.bool t3), lr 3 (ys3.take 3)]))) rfl) ?_
      refine .cons (OpS.C0 (aTAdd (⟨s1, (xs1.take 3), t1, (ys1.take 3), fun _ _ _ h => h, rfl, rfl⟩ : IsT ([.v (.bool s1), lr 3 (xs1.take 3)] ++ [.v (.bool t1), lr 3 (ys1.take 3)]) 3 (zv s1 (val (xs1.take 3))) (zv t1 (val (ys1.take 3)))) (⟨s3, (xs3.take 3), t3, (ys3.take 3), fun _ _ _ h => h, rfl, rfl⟩ : IsT ([.v (.bool s3), lr 3 (xs3.take 3)] ++ [.v (.bool t3), lr 3 (ys3.take 3)]) 3 (zv s3 (val (xs3.take 3))) (zv t3 (val (ys3.take 3)))) (M := 10) (by decide) (by decide)) rfl rfl rfl) ?_
      refine .cons (OpS.V (.d (.agg ([.v (.bool s2), lr 3 (xs2.take 3)] ++ [.v (.bool t2), lr 3 (ys2.take 3)]))) rfl) ?_
      refine .cons (OpS.V (.d (.agg ([.v (.bool s3), lr 3 (xs3.take 3)] ++ [.v (.bool t3), lr 3 (ys3.take 3)]))) rfl) ?_
      refine .cons (OpS.C0 (aTAdd (⟨s2, (xs2.take 3), t2, (ys2.take 3), fun _ _ _ h => h, rfl, rfl⟩ : IsT ([.v (.bool s2), lr 3 (xs2.take 3)] ++ [.v (.bool t2), lr 3 (ys2.take 3)]) 3 (zv s2 (val (xs2.take 3))) (zv t2 (val (ys2.take 3)))) (⟨s3, (xs3.take 3), t3, (ys3.take 3), fun _ _ _ h => h, rfl, rfl⟩ : IsT ([.v (.bool s3), lr 3 (xs3.take 3)] ++ [.v (.bool t3), lr 3 (ys3.take 3)]) 3 (zv s3 (val (xs3.take 3))) (zv t3 (val (ys3.take 3)))) (M := 10) (by decide) (by decide)) rfl rfl rfl) ?_
      refine .cons (OpS.C0 (aTCmp (ist_tn 10 ((mkR (zv s1 (val (xs1.take 3))) (zv t1 (val (ys1.take 3)))) + (mkR (zv s3 (val (xs3.take 3))) (zv t3 (val (ys3.take 3)))))) (ist_tn 10 ((mkR (zv s2 (val (xs2.take 3))) (zv t2 (val (ys2.take 3)))) + (mkR (zv s3 (val (xs3.take 3))) (zv t3 (val (ys3.take 3)))))) (by decide) (by decide)) rfl rfl rfl) ?_
      refine .cons (OpS.V _ rfl) ?_
      refine .cons (OpS.V (.d (.one (.v (.bool false)))) (evb (bne_eq_false_iff_eq.2 (by simp only [mkR_self]; exact cmpQ_add _ _ _)))) ?_
      refine .cons (OpS.V _ rfl) ?_
      refine .cons (OpS.V _ rfl) ?_
      refine .cons (OpS.V (.d (.agg ([.v (.bool s1), lr 3 (xs1.take 3)] ++ [.v (.bool t1), lr 3 (ys1.take 3)]))) rfl) ?_
      refine .cons (OpS.C0 (aTNeg (⟨s1, (xs1.take 3), t1, (ys1.take 3), fun _ _ _ h => h, rfl, rfl⟩ : IsT ([.v (.bool s1), lr 3 (xs1.take 3)] ++ [.v (.bool t1), lr 3 (ys1.take 3)]) 3 (zv s1 (val (xs1.take 3))) (zv t1 (val (ys1.take 3)))) (M := 4) (by decide) (by decide)) rfl rfl rfl) ?_
      refine .cons (OpS.V (.d (.agg ([.v (.bool s2), lr 3 (xs2.take 3)] ++ [.v (.bool t2), lr 3 (ys2.take 3)]))) rfl) ?_
      refine .cons (OpS.C0 (aTNeg (⟨s2, (xs2.take 3), t2, (ys2.take 3), fun _ _ _ h => h, rfl, rfl⟩ : IsT ([.v (.bool s2), lr 3 (xs2.take 3)] ++ [.v (.bool t2), lr 3 (ys2.take 3)]) 3 (zv s2 (val (xs2.take 3))) (zv t2 (val (ys2.take 3)))) (M := 4) (by decide) (by decide)) rfl rfl rfl) ?_
      refine .cons (OpS.C0 (aTCmp (ist_tn 4 (-(mkR (zv s1 (val (xs1.take 3))) (zv t1 (val (ys1.take 3)))))) (ist_tn 4 (-(mkR (zv s2 (val (xs2.take 3))) (zv t2 (val (ys2.take 3)))))) (by decide) (by decide)) rfl rfl rfl) ?_
      refine .cons (OpS.V _ rfl) ?_
      refine .cons (OpS.V (.d (.one (.v (.int .i64 (-(cmpQ (mkR (zv s1 (val (xs1.take 3))) (zv t1 (val (ys1.take 3)))) (mkR (zv s2 (val (xs2.take 3))) (zv t2 (val (ys2.take 3)))))))))) (evi ((wr64 (by omega) (by omega)).trans (by omega)))) ?_
      refine .cons (OpS.V (.d (.one (.v (.bool false)))) (evb (bne_eq_false_iff_eq.2 (by simp only [mkR_self]; exact cmpQ_neg _ _)))) ?_
      refine .cons (OpS.V _ rfl) ?_
      refine .nil ?_
      refine mNil ?_
      refine tN ?_
      refine cF rfl ?_
      refine cSkip ?_
      refine tN ?_
      refine cSeq ?_
      refine cReg ?_
      refine mV hTT (.d (.agg ([.v (.bool s1), lr 3 (xs1.take 3)] ++ [.v (.bool t1), lr 3 (ys1.take 3)]))) rfl ?_
      refine mV hTT (.d (.agg ([.v (.bool s2), lr 3 (xs2.take 3)] ++ [.v (.bool t2), lr 3 (ys2.take 3)]))) rfl ?_
      refine mV hTT (.d (.agg ([.v (.bool s3), lr 3 (xs3.take 3)] ++ [.v (.bool t3), lr 3 (ys3.take 3)]))) rfl ?_
      refine mB hTT (.d (.one (.row 4 2 (fun i' j' => (([.v (.bool s2), lr 3 (xs2.take 3)] ++ [.v (.bool t2), lr 3 (ys2.take 3)] ++ [.v (.bool s3), lr 3 (xs3.take 3)] ++ [.v (.bool t3), lr 3 (ys3.take 3)])[i' * 4 + j']?).getD (.v undef))))) rfl ?_
      refine mC0 (ACall.le (dl DV.same (dl (DV.l (trow2 (K := 3) (F := ((s2, xs2.take 3), (t2, ys2.take 3))) (G := ((s3, xs3.take 3), (t3, ys3.take 3))))) dl0)) AV.le.rfl (aTMaxs (⟨s1, (xs1.take 3), t1, (ys1.take 3), fun _ _ _ h => h, rfl, rfl⟩ : IsT ([.v (.bool s1), lr 3 (xs1.take 3)] ++ [.v (.bool t1), lr 3 (ys1.take 3)]) 3 (zv s1 (val (xs1.take 3))) (zv t1 (val (ys1.take 3)))) (L := 3) (n0 := 2) (f := (fun i : Nat => if i = 0 then ((s2, xs2.take 3), (t2, ys2.take 3)) else ((s3, xs3.take 3), (t3, ys3.take 3)))) (M := 4) (by decide) (by decide) (by decide))) rfl rfl rfl ?_
      refine mN hTT (.box 27 ([.v (.bool false), .v (.slice none 0 0), .v (.bool false), .v (.slice none 0 0)])) rfl rfl rfl ?_
      refine mS hTT 10 (.box 27 (tn 4 (tmax (mkR (zv s1 (val (xs1.take 3))) (zv t1 (val (ys1.take 3)))) (fq (fun i : Nat => if i = 0 then ((s2, xs2.take 3), (t2, ys2.take 3)) else ((s3, xs3.take 3), (t3, ys3.take 3)))) 2))) rfl ?_
      refine mNil ?_
      refine tN ?_
      refine cSeq ?_
      obtain ⟨hm1, hm2, hm3⟩ := tmax_ge (mkR (zv s1 (val (xs1.take 3))) (zv t1 (val (ys1.take 3)))) (fq (fun i : Nat => if i = 0 then ((s2, xs2.take 3), (t2, ys2.take 3)) else ((s3, xs3.take 3), (t3, ys3.take 3)))) 2
      have hm20 : (mkR (zv s2 (val (xs2.take 3))) (zv t2 (val (ys2.take 3)))) ≤ (tmax (mkR (zv s1 (val (xs1.take 3))) (zv t1 (val (ys1.take 3)))) (fq (fun i : Nat => if i = 0 then ((s2, xs2.take 3), (t2, ys2.take 3)) else ((s3, xs3.take 3), (t3, ys3.take 3)))) 2) := hm2 0 (by decide)
      have hm21 : (mkR (zv s3 (val (xs3.take 3))) (zv t3 (val (ys3.take 3)))) ≤ (tmax (mkR (zv s1 (val (xs1.take 3))) (zv t1 (val (ys1.take 3)))) (fq (fun i : Nat => if i = 0 then ((s2, xs2.take 3), (t2, ys2.take 3)) else ((s3, xs3.take 3), (t3, ys3.take 3)))) 2) := hm2 1 (by decide)
      have hm4 : (tmax (mkR (zv s1 (val (xs1.take 3))) (zv t1 (val (ys1.take 3)))) (fq (fun i : Nat => if i = 0 then ((s2, xs2.take 3), (t2, ys2.take 3)) else ((s3, xs3.take 3), (t3, ys3.take 3)))) 2) = (mkR (zv s1 (val (xs1.take 3))) (zv t1 (val (ys1.take 3)))) ∨ (tmax (mkR (zv s1 (val (xs1.take 3))) (zv t1 (val (ys1.take 3)))) (fq (fun i : Nat => if i = 0 then ((s2, xs2.take 3), (t2, ys2.take 3)) else ((s3, xs3.take 3), (t3, ys3.take 3)))) 2) = (mkR (zv s2 (val (xs2.take 3))) (zv t2 (val (ys2.take 3)))) ∨ (tmax (mkR (zv s1 (val (xs1.take 3))) (zv t1 (val (ys1.take 3)))) (fq (fun i : Nat => if i = 0 then ((s2, xs2.take 3), (t2, ys2.take 3)) else ((s3, xs3.take 3), (t3, ys3.take 3)))) 2) = (mkR (zv s3 (val (xs3.take 3))) (zv t3 (val (ys3.take 3)))) := by rcases hm3 with h | ⟨i, hi, h⟩; exact Or.inl h; match i, hi with | 0, _ => exact Or.inr (Or.inl h) | 1, _ => exact Or.inr (Or.inr h)
      by_cases e1 : (tmax (mkR (zv s1 (val (xs1.take 3))) (zv t1 (val (ys1.take 3)))) (fq (fun i : Nat => if i = 0 then ((s2, xs2.take 3), (t2, ys2.take 3)) else ((s3, xs3.take 3), (t3, ys3.take 3)))) 2) = (mkR (zv s1 (val (xs1.take 3))) (zv t1 (val (ys1.take 3))))
      · skip
        refine cReg ?_
        refine mV hTT (.d (.agg (tn 4 (tmax (mkR (zv s1 (val (xs1.take 3))) (zv t1 (val (ys1.take 3)))) (fq (fun i : Nat => if i = 0 then ((s2, xs2.take 3), (t2, ys2.take 3)) else ((s3, xs3.take 3), (t3, ys3.take 3)))) 2)))) rfl ?_
        refine mV hTT (.d (.agg ([.v (.bool s1), lr 3 (xs1.take 3)] ++ [.v (.bool t1), lr 3 (ys1.take 3)]))) rfl ?_
        refine mC0 (aTCmp (ist_tn 4 (tmax (mkR (zv s1 (val (xs1.take 3))) (zv t1 (val (ys1.take 3)))) (fq (fun i : Nat => if i = 0 then ((s2, xs2.take 3), (t2, ys2.take 3)) else ((s3, xs3.take 3), (t3, ys3.take 3)))) 2)) (⟨s1, (xs1.take 3), t1, (ys1.take 3), fun _ _ _ h => h, rfl, rfl⟩ : IsT ([.v (.bool s1), lr 3 (xs1.take 3)] ++ [.v (.bool t1), lr 3 (ys1.take 3)]) 3 (zv s1 (val (xs1.take 3))) (zv t1 (val (ys1.take 3)))) (by decide) (by decide)) rfl rfl rfl ?_
        refine mV hTT (.d (.one (.v (.bool true)))) (evb (decide_eq_true (cmpQ_ge.2 (by simp only [mkR_self]; exact hm1)))) ?_
        refine mV hTT _ rfl ?_
        refine mV hTT (.d (.agg (tn 4 (tmax (mkR (zv s1 (val (xs1.take 3))) (zv t1 (val (ys1.take 3)))) (fq (fun i : Nat => if i = 0 then ((s2, xs2.take 3), (t2, ys2.take 3)) else ((s3, xs3.take 3), (t3, ys3.take 3)))) 2)))) rfl ?_
        refine mV hTT (.d (.agg ([.v (.bool s2), lr 3 (xs2.take 3)] ++ [.v (.bool t2), lr 3 (ys2.take 3)]))) rfl ?_
        refine mC0 (aTCmp (ist_tn 4 (tmax (mkR (zv s1 (val (xs1.take 3))) (zv t1 (val (ys1.take 3)))) (fq (fun i : Nat => if i = 0 then ((s2, xs2.take 3), (t2, ys2.take 3)) else ((s3, xs3.take 3), (t3, ys3.take 3)))) 2)) (⟨s2, (xs2.take 3), t2, (ys2.take 3), fun _ _ _ h => h, rfl, rfl⟩ : IsT ([.v (.bool s2), lr 3 (xs2.take 3)] ++ [.v (.bool t2), lr 3 (ys2.take 3)]) 3 (zv s2 (val (xs2.take 3))) (zv t2 (val (ys2.take 3)))) (by decide) (by decide)) rfl rfl rfl ?_
        refine mV hTT (.d (.one (.v (.bool true)))) (evb (decide_eq_true (cmpQ_ge.2 (by simp only [mkR_self]; exact hm20)))) ?_
        refine mV hTT _ rfl ?_
        refine mV hTT _ rfl ?_
        refine mV hTT (.d (.agg (tn 4 (tmax (mkR (zv s1 (val (xs1.take 3))) (zv t1 (val (ys1.take 3)))) (fq (fun i : Nat => if i = 0 then ((s2, xs2.take 3), (t2, ys2.take 3)) else ((s3, xs3.take 3), (t3, ys3.take 3)))) 2)))) rfl ?_
        refine mV hTT (.d (.agg ([.v (.bool s3), lr 3 (xs3.take 3)] ++ [.v (.bool t3), lr 3 (ys3.take 3)]))) rfl ?_
        refine mC0 (aTCmp (ist_tn 4 (tmax (mkR (zv s1 (val (xs1.take 3))) (zv t1 (val (ys1.take 3)))) (fq (fun i : Nat => if i = 0 then ((s2, xs2.take 3), (t2, ys2.take 3)) else ((s3, xs3.take 3), (t3, ys3.take 3)))) 2)) (⟨s3, (xs3.take 3), t3, (ys3.take 3), fun _ _ _ h => h, rfl, rfl⟩ : IsT ([.v (.bool s3), lr 3 (xs3.take 3)] ++ [.v (.bool t3), lr 3 (ys3.take 3)]) 3 (zv s3 (val (xs3.take 3))) (zv t3 (val (ys3.take 3)))) (by decide) (by decide)) rfl rfl rfl ?_
        refine mV hTT (.d (.one (.v (.bool true)))) (evb (decide_eq_true (cmpQ_ge.2 (by simp only [mkR_self]; exact hm21)))) ?_
        refine mV hTT _ rfl ?_
        refine mV hTT _ rfl ?_
        refine mV hTT (.d (.agg (tn 4 (tmax (mkR (zv s1 (val (xs1.take 3))) (zv t1 (val (ys1.take 3)))) (fq (fun i : Nat => if i = 0 then ((s2, xs2.take 3), (t2, ys2.take 3)) else ((s3, xs3.take 3), (t3, ys3.take 3)))) 2)))) rfl ?_
        refine mV hTT (.d (.agg ([.v (.bool s1), lr 3 (xs1.take 3)] ++ [.v (.bool t1), lr 3 (ys1.take 3)]))) rfl ?_
        refine mC0 (aTCmp (ist_tn 4 (tmax (mkR (zv s1 (val (xs1.take 3))) (zv t1 (val (ys1.take 3)))) (fq (fun i : Nat => if i = 0 then ((s2, xs2.take 3), (t2, ys2.take 3)) else ((s3, xs3.take 3), (t3, ys3.take 3)))) 2)) (⟨s1, (xs1.take 3), t1, (ys1.take 3), fun _ _ _ h => h, rfl, rfl⟩ : IsT ([.v (.bool s1), lr 3 (xs1.take 3)] ++ [.v (.bool t1), lr 3 (ys1.take 3)]) 3 (zv s1 (val (xs1.take 3))) (zv t1 (val (ys1.take 3)))) (by decide) (by decide)) rfl rfl rfl ?_
        refine mV hTT (.d (.one (.v (.bool true)))) (evb (beq_iff_eq.2 (cmpQ_eq (by simp only [mkR_self]; exact e1)))) ?_
        refine mV hTT _ rfl ?_
        refine mG rfl rfl ?_
        refine mG rfl rfl ?_
        refine mG rfl rfl ?_
        refine mG rfl rfl ?_
        refine mV hTT _ rfl ?_
        refine mV hTT _ rfl ?_
        refine mG rfl rfl ?_
        refine mG rfl rfl ?_
        refine mG rfl rfl ?_
        refine mG rfl rfl ?_
        refine mV hTT _ rfl ?_
        refine mV hTT _ rfl ?_
        refine mV hTT _ rfl ?_
        refine mV hTT (.d (.agg ([.v (.bool s1), lr 3 (xs1.take 3)] ++ [.v (.bool t1), lr 3 (ys1.take 3)]))) rfl ?_
        refine mV hTT (.d (.agg ([.v (.bool s2), lr 3 (xs2.take 3)] ++ [.v (.bool t2), lr 3 (ys2.take 3)]))) rfl ?_
        refine mC0 (aTSub (⟨s1, (xs1.take 3), t1, (ys1.take 3), fun _ _ _ h => h, rfl, rfl⟩ : IsT ([.v (.bool s1), lr 3 (xs1.take 3)] ++ [.v (.bool t1), lr 3 (ys1.take 3)]) 3 (zv s1 (val (xs1.take 3))) (zv t1 (val (ys1.take 3)))) (⟨s2, (xs2.take 3), t2, (ys2.take 3), fun _ _ _ h => h, rfl, rfl⟩ : IsT ([.v (.bool s2), lr 3 (xs2.take 3)] ++ [.v (.bool t2), lr 3 (ys2.take 3)]) 3 (zv s2 (val (xs2.take 3))) (zv t2 (val (ys2.take 3)))) (M := 10) (by decide) (by decide)) rfl rfl rfl ?_
        refine mV hTT (.d (.agg (zn 10 (Rat.num ((mkR (zv s1 (val (xs1.take 3))) (zv t1 (val (ys1.take 3)))) - (mkR (zv s2 (val (xs2.take 3))) (zv t2 (val (ys2.take 3))))))))) rfl ?_
        refine mC0 (aSign (isn 10 (Rat.num ((mkR (zv s1 (val (xs1.take 3))) (zv t1 (val (ys1.take 3)))) - (mkR (zv s2 (val (xs2.take 3))) (zv t2 (val (ys2.take 3)))))))) rfl rfl rfl ?_
        refine mV hTT _ rfl ?_
        refine mV hTT (.d (.one (.v (.bool true)))) (evb (beq_iff_eq.2 (by exact sgn_sub _ _))) ?_
        refine mV hTT _ rfl ?_
        refine mV hTT _ rfl ?_
        refine mC0 (aWakes4) rfl rfl rfl ?_
        refine mV hTT _ rfl ?_
        refine mV hTT _ rfl ?_
        refine mNil ?_
        refine tN ?_
        refine cRet ?_
        exact rQ rfl (AV.le.rfl)
      · skip
        by_cases e2 : (tmax (mkR (zv s1 (val (xs1.take 3))) (zv t1 (val (ys1.take 3)))) (fq (fun i : Nat => if i = 0 then ((s2, xs2.take 3), (t2, ys2.take 3)) else ((s3, xs3.take 3), (t3, ys3.take 3)))) 2) = (mkR (zv s2 (val (xs2.take 3))) (zv t2 (val (ys2.take 3))))
        · skip
          refine cReg ?_
          refine mV hTT (.d (.agg (tn 4 (tmax (mkR (zv s1 (val (xs1.take 3))) (zv t1 (val (ys1.take 3)))) (fq (fun i : Nat => if i = 0 then ((s2, xs2.take 3), (t2, ys2.take 3)) else ((s3, xs3.take 3), (t3, ys3.take 3)))) 2)))) rfl ?_
          refine mV hTT (.d (.agg ([.v (.bool s1), lr 3 (xs1.take 3)] ++ [.v (.bool t1), lr 3 (ys1.take 3)]))) rfl ?_
          refine mC0 (aTCmp (ist_tn 4 (tmax (mkR (zv s1 (val (xs1.take 3))) (zv t1 (val (ys1.take 3)))) (fq (fun i : Nat => if i = 0 then ((s2, xs2.take 3), (t2, ys2.take 3)) else ((s3, xs3.take 3), (t3, ys3.take 3)))) 2)) (⟨s1, (xs1.take 3), t1, (ys1.take 3), fun _ _ _ h => h, rfl, rfl⟩ : IsT ([.v (.bool s1), lr 3 (xs1.take 3)] ++ [.v (.bool t1), lr 3 (ys1.take 3)]) 3 (zv s1 (val (xs1.take 3))) (zv t1 (val (ys1.take 3)))) (by decide) (by decide)) rfl rfl rfl ?_
          refine mV hTT (.d (.one (.v (.bool true)))) (evb (decide_eq_true (cmpQ_ge.2 (by simp only [mkR_self]; exact hm1)))) ?_
          refine mV hTT _ rfl ?_
          refine mV hTT (.d (.agg (tn 4 (tmax (mkR (zv s1 (val (xs1.take 3))) (zv t1 (val (ys1.take 3)))) (fq (fun i : Nat => if i = 0 then ((s2, xs2.take 3), (t2, ys2.take 3)) else ((s3, xs3.take 3), (t3, ys3.take 3)))) 2)))) rfl ?_
          refine mV hTT (.d (.agg ([.v (.bool s2), lr 3 (xs2.take 3)] ++ [.v (.bool t2), lr 3 (ys2.take 3)]))) rfl ?_
          refine mC0 (aTCmp (ist_tn 4 (tmax (mkR (zv s1 (val (xs1.take 3))) (zv t1 (val (ys1.take 3)))) (fq (fun i : Nat => if i = 0 then ((s2, xs2.take 3), (t2, ys2.take 3)) else ((s3, xs3.take 3), (t3, ys3.take 3)))) 2)) (⟨s2, (xs2.take 3), t2, (ys2.take 3), fun _ _ _ h => h, rfl, rfl⟩ : IsT ([.v (.bool s2), lr 3 (xs2.take 3)] ++ [.v (.bool t2), lr 3 (ys2.take 3)]) 3 (zv s2 (val (xs2.take 3))) (zv t2 (val (ys2.take 3)))) (by decide) (by decide)) rfl rfl rfl ?_
          refine mV hTT (.d (.one (.v (.bool true)))) (evb (decide_eq_true (cmpQ_ge.2 (by simp only [mkR_self]; exact hm20)))) ?_
          refine mV hTT _ rfl ?_
          refine mV hTT _ rfl ?_
          refine mV hTT (.d (.agg (tn 4 (tmax (mkR (zv s1 (val (xs1.take 3))) (zv t1 (val (ys1.take 3)))) (fq (fun i : Nat => if i = 0 then ((s2, xs2.take 3), (t2, ys2.take 3)) else ((s3, xs3.take 3), (t3, ys3.take 3)))) 2)))) rfl ?_
          refine mV hTT (.d (.agg ([.v (.bool s3), lr 3 (xs3.take 3)] ++ [.v (.bool t3), lr 3 (ys3.take 3)]))) rfl ?_
          refine mC0 (aTCmp (ist_tn 4 (tmax (mkR (zv s1 (val (xs1.take 3))) (zv t1 (val (ys1.take 3)))) (fq (fun i : Nat => if i = 0 then ((s2, xs2.take 3), (t2, ys2.take 3)) else ((s3, xs3.take 3), (t3, ys3.take 3)))) 2)) (⟨s3, (xs3.take 3), t3, (ys3.take 3), fun _ _ _ h => h, rfl, rfl⟩ : IsT ([.v (.bool s3), lr 3 (xs3.take 3)] ++ [.v (.bool t3), lr 3 (ys3.take 3)]) 3 (zv s3 (val (xs3.take 3))) (zv t3 (val (ys3.take 3)))) (by decide) (by decide)) rfl rfl rfl ?_
          refine mV hTT (.d (.one (.v (.bool true)))) (evb (decide_eq_true (cmpQ_ge.2 (by simp only [mkR_self]; exact hm21)))) ?_
          refine mV hTT _ rfl ?_
          refine mV hTT _ rfl ?_
          refine mV hTT (.d (.agg (tn 4 (tmax (mkR (zv s1 (val (xs1.take 3))) (zv t1 (val (ys1.take 3)))) (fq (fun i : Nat => if i = 0 then ((s2, xs2.take 3), (t2, ys2.take 3)) else ((s3, xs3.take 3), (t3, ys3.take 3)))) 2)))) rfl ?_
          refine mV hTT (.d (.agg ([.v (.bool s1), lr 3 (xs1.take 3)] ++ [.v (.bool t1), lr 3 (ys1.take 3)]))) rfl ?_
          refine mC0 (aTCmp (ist_tn 4 (tmax (mkR (zv s1 (val (xs1.take 3))) (zv t1 (val (ys1.take 3)))) (fq (fun i : Nat => if i = 0 then ((s2, xs2.take 3), (t2, ys2.take 3)) else ((s3, xs3.take 3), (t3, ys3.take 3)))) 2)) (⟨s1, (xs1.take 3), t1, (ys1.take 3), fun _ _ _ h => h, rfl, rfl⟩ : IsT ([.v (.bool s1), lr 3 (xs1.take 3)] ++ [.v (.bool t1), lr 3 (ys1.take 3)]) 3 (zv s1 (val (xs1.take 3))) (zv t1 (val (ys1.take 3)))) (by decide) (by decide)) rfl rfl rfl ?_
          refine mV hTT (.d (.one (.v (.bool false)))) (evb (beq_eq_false_iff_ne.2 (fun h => e1 (by have h2 := cmpQ_zero.1 h; simp only [mkR_self] at h2; exact h2)))) ?_
          refine mV hTT _ rfl ?_
          refine mV hTT (.d (.agg (tn 4 (tmax (mkR (zv s1 (val (xs1.take 3))) (zv t1 (val (ys1.take 3)))) (fq (fun i : Nat => if i = 0 then ((s2, xs2.take 3), (t2, ys2.take 3)) else ((s3, xs3.take 3), (t3, ys3.take 3)))) 2)))) rfl ?_
          refine mV hTT (.d (.agg ([.v (.bool s2), lr 3 (xs2.take 3)] ++ [.v (.bool t2), lr 3 (ys2.take 3)]))) rfl ?_
          refine mC0 (aTCmp (ist_tn 4 (tmax (mkR (zv s1 (val (xs1.take 3))) (zv t1 (val (ys1.take 3)))) (fq (fun i : Nat => if i = 0 then ((s2, xs2.take 3), (t2, ys2.take 3)) else ((s3, xs3.take 3), (t3, ys3.take 3)))) 2)) (⟨s2, (xs2.take 3), t2, (ys2.take 3), fun _ _ _ h => h, rfl, rfl⟩ : IsT ([.v (.bool s2), lr 3 (xs2.take 3)] ++ [.v (.bool t2), lr 3 (ys2.take 3)]) 3 (zv s2 (val (xs2.take 3))) (zv t2 (val (ys2.take 3)))) (by decide) (by decide)) rfl rfl rfl ?_
          refine mV hTT (.d (.one (.v (.bool true)))) (evb (beq_iff_eq.2 (cmpQ_eq (by simp only [mkR_self]; exact e2)))) ?_
          refine mV hTT _ rfl ?_
          refine mV hTT _ rfl ?_
          refine mG rfl rfl ?_
          refine mG rfl rfl ?_
          refine mG rfl rfl ?_
          refine mG rfl rfl ?_
          refine mV hTT _ rfl ?_
          refine mV hTT _ rfl ?_
          refine mV hTT _ rfl ?_
          refine mV hTT (.d (.agg ([.v (.bool s1), lr 3 (xs1.take 3)] ++ [.v (.bool t1), lr 3 (ys1.take 3)]))) rfl ?_
          refine mV hTT (.d (.agg ([.v (.bool s2), lr 3 (xs2.take 3)] ++ [.v (.bool t2), lr 3 (ys2.take 3)]))) rfl ?_
          refine mC0 (aTSub (⟨s1, (xs1.take 3), t1, (ys1.take 3), fun _ _ _ h => h, rfl, rfl⟩ : IsT ([.v (.bool s1), lr 3 (xs1.take 3)] ++ [.v (.bool t1), lr 3 (ys1.take 3)]) 3 (zv s1 (val (xs1.take 3))) (zv t1 (val (ys1.take 3)))) (⟨s2, (xs2.take 3), t2, (ys2.take 3), fun _ _ _ h => h, rfl, rfl⟩ : IsT ([.v (.bool s2), lr 3 (xs2.take 3)] ++ [.v (.bool t2), lr 3 (ys2.take 3)]) 3 (zv s2 (val (xs2.take 3))) (zv t2 (val (ys2.take 3)))) (M := 10) (by decide) (by decide)) rfl rfl rfl ?_
          refine mV hTT (.d (.agg (zn 10 (Rat.num ((mkR (zv s1 (val (xs1.take 3))) (zv t1 (val (ys1.take 3)))) - (mkR (zv s2 (val (xs2.take 3))) (zv t2 (val (ys2.take 3))))))))) rfl ?_
          refine mC0 (aSign (isn 10 (Rat.num ((mkR (zv s1 (val (xs1.take 3))) (zv t1 (val (ys1.take 3)))) - (mkR (zv s2 (val (xs2.take 3))) (zv t2 (val (ys2.take 3)))))))) rfl rfl rfl ?_
          refine mV hTT _ rfl ?_
          refine mV hTT (.d (.one (.v (.bool true)))) (evb (beq_iff_eq.2 (by exact sgn_sub _ _))) ?_
          refine mV hTT _ rfl ?_
          refine mV hTT _ rfl ?_
          refine mC0 (aWakes4) rfl rfl rfl ?_
          refine mV hTT _ rfl ?_
          refine mV hTT _ rfl ?_
          refine mNil ?_
          refine tN ?_
          refine cRet ?_
          exact rQ rfl (AV.le.rfl)
        · skip
          have e3 := (hm4.resolve_left e1).resolve_left e2
          refine cReg ?_
          refine mV hTT (.d (.agg (tn 4 (tmax (mkR (zv s1 (val (xs1.take 3))) (zv t1 (val (ys1.take 3)))) (fq (fun i : Nat => if i = 0 then ((s2, xs2.take 3), (t2, ys2.take 3)) else ((s3, xs3.take 3), (t3, ys3.take 3)))) 2)))) rfl ?_
          refine mV hTT (.d (.agg ([.v (.bool s1), lr 3 (xs1.take 3)] ++ [.v (.bool t1), lr 3 (ys1.take 3)]))) rfl ?_
          refine mC0 (aTCmp (ist_tn 4 (tmax (mkR (zv s1 (val (xs1.take 3))) (zv t1 (val (ys1.take 3)))) (fq (fun i : Nat => if i = 0 then ((s2, xs2.take 3), (t2, ys2.take 3)) else ((s3, xs3.take 3), (t3, ys3.take 3)))) 2)) (⟨s1, (xs1.take 3), t1, (ys1.take 3), fun _ _ _ h => h, rfl, rfl⟩ : IsT ([.v (.bool s1), lr 3 (xs1.take 3)] ++ [.v (.bool t1), lr 3 (ys1.take 3)]) 3 (zv s1 (val (xs1.take 3))) (zv t1 (val (ys1.take 3)))) (by decide) (by decide)) rfl rfl rfl ?_
          refine mV hTT (.d (.one (.v (.bool true)))) (evb (decide_eq_true (cmpQ_ge.2 (by simp only [mkR_self]; exact hm1)))) ?_
          refine mV hTT _ rfl ?_
          refine mV hTT (.d (.agg (tn 4 (tmax (mkR (zv s1 (val (xs1.take 3))) (zv t1 (val (ys1.take 3)))) (fq (fun i : Nat => if i = 0 then ((s2, xs2.take 3), (t2, ys2.take 3)) else ((s3, xs3.take 3), (t3, ys3.take 3)))) 2)))) rfl ?_
          refine mV hTT (.d (.agg ([.v (.bool s2), lr 3 (xs2.take 3)] ++ [.v (.bool t2), lr 3 (ys2.take 3)]))) rfl ?_
          refine mC0 (aTCmp (ist_tn 4 (tmax (mkR (zv s1 (val (xs1.take 3))) (zv t1 (val (ys1.take 3)))) (fq (fun i : Nat => if i = 0 then ((s2, xs2.take 3), (t2, ys2.take 3)) else ((s3, xs3.take 3), (t3, ys3.take 3)))) 2)) (⟨s2, (xs2.take 3), t2, (ys2.take 3), fun _ _ _ h => h, rfl, rfl⟩ : IsT ([.v (.bool s2), lr 3 (xs2.take 3)] ++ [.v (.bool t2), lr 3 (ys2.take 3)]) 3 (zv s2 (val (xs2.take 3))) (zv t2 (val (ys2.take 3)))) (by decide) (by decide)) rfl rfl rfl ?_
          refine mV hTT (.d (.one (.v (.bool true)))) (evb (decide_eq_true (cmpQ_ge.2 (by simp only [mkR_self]; exact hm20)))) ?_
          refine mV hTT _ rfl ?_
          refine mV hTT _ rfl ?_
          refine mV hTT (.d (.agg (tn 4 (tmax (mkR (zv s1 (val (xs1.take 3))) (zv t1 (val (ys1.take 3)))) (fq (fun i : Nat => if i = 0 then ((s2, xs2.take 3), (t2, ys2.take 3)) else ((s3, xs3.take 3), (t3, ys3.take 3)))) 2)))) rfl ?_
          refine mV hTT (.d (.agg ([.v (.bool s3), lr 3 (xs3.take 3)] ++ [.v (.bool t3), lr 3 (ys3.take 3)]))) rfl ?_
          refine mC0 (aTCmp (ist_tn 4 (tmax (mkR (zv s1 (val (xs1.take 3))) (zv t1 (val (ys1.take 3)))) (fq (fun i : Nat => if i = 0 then ((s2, xs2.take 3), (t2, ys2.take 3)) else ((s3, xs3.take 3), (t3, ys3.take 3)))) 2)) (⟨s3, (xs3.take 3), t3, (ys3.take 3), fun _ _ _ h => h, rfl, rfl⟩ : IsT ([.v (.bool s3), lr 3 (xs3.take 3)] ++ [.v (.bool t3), lr 3 (ys3.take 3)]) 3 (zv s3 (val (xs3.take 3))) (zv t3 (val (ys3.take 3)))) (by decide) (by decide)) rfl rfl rfl ?_
          refine mV hTT (.d (.one (.v (.bool true)))) (evb (decide_eq_true (cmpQ_ge.2 (by simp only [mkR_self]; exact hm21)))) ?_
          refine mV hTT _ rfl ?_
          refine mV hTT _ rfl ?_
          refine mV hTT (.d (.agg (tn 4 (tmax (mkR (zv s1 (val (xs1.take 3))) (zv t1 (val (ys1.take 3)))) (fq (fun i : Nat => if i = 0 then ((s2, xs2.take 3), (t2, ys2.take 3)) else ((s3, xs3.take 3), (t3, ys3.take 3)))) 2)))) rfl ?_
          refine mV hTT (.d (.agg ([.v (.bool s1), lr 3 (xs1.take 3)] ++ [.v (.bool t1), lr 3 (ys1.take 3)]))) rfl ?_
          refine mC0 (aTCmp (ist_tn 4 (tmax (mkR (zv s1 (val (xs1.take 3))) (zv t1 (val (ys1.take 3)))) (fq (fun i : Nat => if i = 0 then ((s2, xs2.take 3), (t2, ys2.take 3)) else ((s3, xs3.take 3), (t3, ys3.take 3)))) 2)) (⟨s1, (xs1.take 3), t1, (ys1.take 3), fun _ _ _ h => h, rfl, rfl⟩ : IsT ([.v (.bool s1), lr 3 (xs1.take 3)] ++ [.v (.bool t1), lr 3 (ys1.take 3)]) 3 (zv s1 (val (xs1.take 3))) (zv t1 (val (ys1.take 3)))) (by decide) (by decide)) rfl rfl rfl ?_
          refine mV hTT (.d (.one (.v (.bool false)))) (evb (beq_eq_false_iff_ne.2 (fun h => e1 (by have h2 := cmpQ_zero.1 h; simp only [mkR_self] at h2; exact h2)))) ?_
          refine mV hTT _ rfl ?_
          refine mV hTT (.d (.agg (tn 4 (tmax (mkR (zv s1 (val (xs1.take 3))) (zv t1 (val (ys1.take 3)))) (fq (fun i : Nat => if i = 0 then ((s2, xs2.take 3), (t2, ys2.take 3)) else ((s3, xs3.take 3), (t3, ys3.take 3)))) 2)))) rfl ?_
          refine mV hTT (.d (.agg ([.v (.bool s2), lr 3 (xs2.take 3)] ++ [.v (.bool t2), lr 3 (ys2.take 3)]))) rfl ?_
          refine mC0 (aTCmp (ist_tn 4 (tmax (mkR (zv s1 (val (xs1.take 3))) (zv t1 (val (ys1.take 3)))) (fq (fun i : Nat => if i = 0 then ((s2, xs2.take 3), (t2, ys2.take 3)) else ((s3, xs3.take 3), (t3, ys3.take 3)))) 2)) (⟨s2, (xs2.take 3), t2, (ys2.take 3), fun _ _ _ h => h, rfl, rfl⟩ : IsT ([.v (.bool s2), lr 3 (xs2.take 3)] ++ [.v (.bool t2), lr 3 (ys2.take 3)]) 3 (zv s2 (val (xs2.take 3))) (zv t2 (val (ys2.take 3)))) (by decide) (by decide)) rfl rfl rfl ?_
          refine mV hTT (.d (.one (.v (.bool false)))) (evb (beq_eq_false_iff_ne.2 (fun h => e2 (by have h2 := cmpQ_zero.1 h; simp only [mkR_self] at h2; exact h2)))) ?_
          refine mV hTT _ rfl ?_
          refine mV hTT _ rfl ?_
          refine mV hTT (.d (.agg (tn 4 (tmax (mkR (zv s1 (val (xs1.take 3))) (zv t1 (val (ys1.take 3)))) (fq (fun i : Nat => if i = 0 then ((s2, xs2.take 3), (t2, ys2.take 3)) else ((s3, xs3.take 3), (t3, ys3.take 3)))) 2)))) rfl ?_
          refine mV hTT (.d (.agg ([.v (.bool s3), lr 3 (xs3.take 3)] ++ [.v (.bool t3), lr 3 (ys3.take 3)]))) rfl ?_
          refine mC0 (aTCmp (ist_tn 4 (tmax (mkR (zv s1 (val (xs1.take 3))) (zv t1 (val (ys1.take 3)))) (fq (fun i : Nat => if i = 0 then ((s2, xs2.take 3), (t2, ys2.take 3)) else ((s3, xs3.take 3), (t3, ys3.take 3)))) 2)) (⟨s3, (xs3.take 3), t3, (ys3.take 3), fun _ _ _ h => h, rfl, rfl⟩ : IsT ([.v (.bool s3), lr 3 (xs3.take 3)] ++ [.v (.bool t3), lr 3 (ys3.take 3)]) 3 (zv s3 (val (xs3.take 3))) (zv t3 (val (ys3.take 3)))) (by decide) (by decide)) rfl rfl rfl ?_
          refine mV hTT (.d (.one (.v (.bool true)))) (evb (beq_iff_eq.2 (cmpQ_eq (by simp only [mkR_self]; exact e3)))) ?_
          refine mV hTT _ rfl ?_
          refine mV hTT _ rfl ?_
          refine mV hTT _ rfl ?_
          refine mV hTT (.d (.agg ([.v (.bool s1), lr 3 (xs1.take 3)] ++ [.v (.bool t1), lr 3 (ys1.take 3)]))) rfl ?_
          refine mV hTT (.d (.agg ([.v (.bool s2), lr 3 (xs2.take 3)] ++ [.v (.bool t2), lr 3 (ys2.take 3)]))) rfl ?_
          refine mC0 (aTSub (⟨s1, (xs1.take 3), t1, (ys1.take 3), fun _ _ _ h => h, rfl, rfl⟩ : IsT ([.v (.bool s1), lr 3 (xs1.take 3)] ++ [.v (.bool t1), lr 3 (ys1.take 3)]) 3 (zv s1 (val (xs1.take 3))) (zv t1 (val (ys1.take 3)))) (⟨s2, (xs2.take 3), t2, (ys2.take 3), fun _ _ _ h => h, rfl, rfl⟩ : IsT ([.v (.bool s2), lr 3 (xs2.take 3)] ++ [.v (.bool t2), lr 3 (ys2.take 3)]) 3 (zv s2 (val (xs2.take 3))) (zv t2 (val (ys2.take 3)))) (M := 10) (by decide) (by decide)) rfl rfl rfl ?_
          refine mV hTT (.d (.agg (zn 10 (Rat.num ((mkR (zv s1 (val (xs1.take 3))) (zv t1 (val (ys1.take 3)))) - (mkR (zv s2 (val (xs2.take 3))) (zv t2 (val (ys2.take 3))))))))) rfl ?_
          refine mC0 (aSign (isn 10 (Rat.num ((mkR (zv s1 (val (xs1.take 3))) (zv t1 (val (ys1.take 3)))) - (mkR (zv s2 (val (xs2.take 3))) (zv t2 (val (ys2.take 3)))))))) rfl rfl rfl ?_
          refine mV hTT _ rfl ?_
          refine mV hTT (.d (.one (.v (.bool true)))) (evb (beq_iff_eq.2 (by exact sgn_sub _ _))) ?_
          refine mV hTT _ rfl ?_
          refine mV hTT _ rfl ?_
          refine mC0 (aWakes4) rfl rfl rfl ?_
          refine mV hTT _ rfl ?_
          refine mV hTT _ rfl ?_
          refine mNil ?_
          refine tN ?_
          refine cRet ?_
          exact rQ rfl (AV.le.rfl)
  · skip
    refine cDrawK hTT 39 (by kernel_rfl) (by kernel_rfl) (by kernel_rfl) ?_
    refine .cons (OpS.V _ rfl) ?_
    refine .cons (OpS.V (.d (.agg ([.v (.bool s2), lr 3 (xs2.take 3)] ++ [.v (.bool t2), lr 3 (ys2.take 3)]))) rfl) ?_
    refine .cons (OpS.V (.d (.agg ([.v (.bool s1), lr 3 (xs1.take 3)] ++ [.v (.bool t1), lr 3 (ys1.take 3)]))) rfl) ?_
    refine .cons (OpS.C0 (aTCmp (⟨s2, (xs2.take 3), t2, (ys2.take 3), fun _ _ _ h => h, rfl, rfl⟩ : IsT ([.v (.bool s2), lr 3 (xs2.take 3)] ++ [.v (.bool t2), lr 3 (ys2.take 3)]) 3 (zv s2 (val (xs2.take 3))) (zv t2 (val (ys2.take 3)))) (⟨s1, (xs1.take 3), t1, (ys1.take 3), fun _ _ _ h => h, rfl, rfl⟩ : IsT ([.v (.bool s1), lr 3 (xs1.take 3)] ++ [.v (.bool t1), lr 3 (ys1.take 3)]) 3 (zv s1 (val (xs1.take 3))) (zv t1 (val (ys1.take 3)))) (by decide) (by decide)) rfl rfl rfl) ?_
    refine .cons (OpS.V (.d (.one (.v (.int .i64 (-(cmpQ (mkR (zv s2 (val (xs2.take 3))) (zv t2 (val (ys2.take 3)))) (mkR (zv s1 (val (xs1.take 3))) (zv t1 (val (ys1.take 3)))))))))) (evi ((wr64 (by omega) (by omega)).trans (by omega)))) ?_
    refine .cons (OpS.V (.d (.one (.v (.bool false)))) (evb (bne_eq_false_iff_eq.2 (by rw [cmpQ_anti (mkR (zv s1 (val (xs1.take 3))) (zv t1 (val (ys1.take 3)))) (mkR (zv s2 (val (xs2.take 3))) (zv t2 (val (ys2.take 3))))]; omega)))) ?_
    refine .cons (OpS.V _ rfl) ?_
    refine .cons (OpS.V _ rfl) ?_
    refine .cons (OpS.V (.d (.one (.v (.bool false)))) (evb (decide_eq_false hc1))) ?_
    refine .cons (OpS.V _ rfl) ?_
    refine .cons (OpS.G rfl rfl) ?_
    refine .cons (OpS.G rfl rfl) ?_
    refine .cons (OpS.V _ rfl) ?_
    refine .cons (OpS.V _ rfl) ?_
    refine .cons (OpS.G rfl rfl) ?_
    refine .cons (OpS.G rfl rfl) ?_
    refine .cons (OpS.V _ rfl) ?_
    refine .cons (OpS.V _ rfl) ?_
    refine .cons (OpS.V _ rfl) ?_
    refine .cons (OpS.V (.d (.agg ([.v (.bool s1), lr 3 (xs1.take 3)] ++ [.v (.bool t1), lr 3 (ys1.take 3)]))) rfl) ?_
    refine .cons (OpS.V (.d (.agg ([.v (.bool s3), lr 3 (xs3.take 3)] ++ [.v (.bool t3), lr 3 (ys3.take 3)]))) rfl) ?_
    refine .cons (OpS.C0 (aTAdd (⟨s1, (xs1.take 3), t1, (ys1.take 3), fun _ _ _ h => h, rfl, rfl⟩ : IsT ([.v (.bool s1), lr 3 (xs1.take 3)] ++ [.v (.bool t1), lr 3 (ys1.take 3)]) 3 (zv s1 (val (xs1.take 3))) (zv t1 (val (ys1.take 3)))) (⟨s3, (xs3.take 3), t3, (ys3.take 3), fun _ _ _ h => h, rfl, rfl⟩ : IsT ([.v (.bool s3), lr 3 (xs3.take 3)] ++ [.v (.bool t3), lr 3 (ys3.take 3)]) 3 (zv s3 (val (xs3.take 3))) (zv t3 (val (ys3.take 3)))) (M := 10) (by decide) (by decide)) rfl rfl rfl) ?_
    refine .cons (OpS.V (.d (.agg ([.v (.bool s2), lr 3 (xs2.take 3)] ++ [.v (.bool t2), lr 3 (ys2.take 3)]))) rfl) ?_
    refine .cons (OpS.V (.d (.agg ([.v (.bool s3), lr 3 (xs3.take 3)] ++ [.v (.bool t3), lr 3 (ys3.take 3)]))) rfl) ?_
    refine .cons (OpS.C0 (aTAdd (⟨s2, (xs2.take 3), t2, (ys2.take 3), fun _ _ _ h => h, rfl, rfl⟩ : IsT ([.v (.bool s2), lr 3 (xs2.take 3)] ++ [.v (.bool t2), lr 3 (ys2.take 3)]) 3 (zv s2 (val (xs2.take 3))) (zv t2 (val (ys2.take 3)))) (⟨s3, (xs3.take 3), t3, (ys3.take 3), fun _ _ _ h => h, rfl, rfl⟩ : IsT ([.v (.bool s3), lr 3 (xs3.take 3)] ++ [.v (.bool t3), lr 3 (ys3.take 3)]) 3 (zv s3 (val (xs3.take 3))) (zv t3 (val (ys3.take 3)))) (M := 10) (by decide) (by decide)) rfl rfl rfl) ?_
    refine .cons (OpS.C0 (aTCmp (ist_tn 10 ((mkR (zv s1 (val (xs1.take 3))) (zv t1 (val (ys1.take 3)))) + (mkR (zv s3 (val (xs3.take 3))) (zv t3 (val (ys3.take 3)))))) (ist_tn 10 ((mkR (zv s2 (val (xs2.take 3))) (zv t2 (val (ys2.take 3)))) + (mkR (zv s3 (val (xs3.take 3))) (zv t3 (val (ys3.take 3)))))) (by decide) (by decide)) rfl rfl rfl) ?_
    refine .cons (OpS.V _ rfl) ?_
    refine .cons (OpS.V (.d (.one (.v (.bool false)))) (evb (bne_eq_false_iff_eq.2 (by simp only [mkR_self]; exact cmpQ_add _ _ _)))) ?_
    refine .cons (OpS.V _ rfl) ?_
    refine .cons (OpS.V _ rfl) ?_
    refine .cons (OpS.V (.d (.agg ([.v (.bool s1), lr 3 (xs1.take 3)] ++ [.v (.bool t1), lr 3 (ys1.take 3)]))) rfl) ?_
    refine .cons (OpS.C0 (aTNeg (⟨s1, (xs1.take 3), t1, (ys1.take 3), fun _ _ _ h => h, rfl, rfl⟩ : IsT ([.v (.bool s1), lr 3 (xs1.take 3)] ++ [.v (.bool t1), lr 3 (ys1.take 3)]) 3 (zv s1 (val (xs1.take 3))) (zv t1 (val (ys1.take 3)))) (M := 4) (by decide) (by decide)) rfl rfl rfl) ?_
    refine .cons (OpS.V (.d (.agg ([.v (.bool s2), lr 3 (xs2.take 3)] ++ [.v (.bool t2), lr 3 (ys2.take 3)]))) rfl) ?_
    refine .cons (OpS.C0 (aTNeg (⟨s2, (xs2.take 3), t2, (ys2.take 3), fun _ _ _ h => h, rfl, rfl⟩ : IsT ([.v (.bool s2), lr 3 (xs2.take 3)] ++ [.v (.bool t2), lr 3 (ys2.take 3)]) 3 (zv s2 (val (xs2.take 3))) (zv t2 (val (ys2.take 3)))) (M := 4) (by decide) (by decide)) rfl rfl rfl) ?_
    refine .cons (OpS.C0 (aTCmp (ist_tn 4 (-(mkR (zv s1 (val (xs1.take 3))) (zv t1 (val (ys1.take 3)))))) (ist_tn 4 (-(mkR (zv s2 (val (xs2.take 3))) (zv t2 (val (ys2.take 3)))))) (by decide) (by decide)) rfl rfl rfl) ?_
    refine .cons (OpS.V _ rfl) ?_
    refine .cons (OpS.V (.d (.one (.v (.int .i64 (-(cmpQ (mkR (zv s1 (val (xs1.take 3))) (zv t1 (val (ys1.take 3)))) (mkR (zv s2 (val (xs2.take 3))) (zv t2 (val (ys2.take 3)))))))))) (evi ((wr64 (by omega) (by omega)).trans (by omega)))) ?_
    refine .cons (OpS.V (.d (.one (.v (.bool false)))) (evb (bne_eq_false_iff_eq.2 (by simp only [mkR_self]; exact cmpQ_neg _ _)))) ?_
    refine .cons (OpS.V _ rfl) ?_
    refine .nil ?_
    refine mNil ?_
    refine tN ?_
    refine cF rfl ?_
    refine cSkip ?_
    refine tN ?_
    refine cSeq ?_
    refine cReg ?_
    refine mV hTT (.d (.agg ([.v (.bool s1), lr 3 (xs1.take 3)] ++ [.v (.bool t1), lr 3 (ys1.take 3)]))) rfl ?_
    refine mV hTT (.d (.agg ([.v (.bool s2), lr 3 (xs2.take 3)] ++ [.v (.bool t2), lr 3 (ys2.take 3)]))) rfl ?_
    refine mV hTT (.d (.agg ([.v (.bool s3), lr 3 (xs3.take 3)] ++ [.v (.bool t3), lr 3 (ys3.take 3)]))) rfl ?_
    refine mB hTT (.d (.one (.row 4 2 (fun i' j' => (([.v (.bool s2), lr 3 (xs2.take 3)] ++ [.v (.bool t2), lr 3 (ys2.take 3)] ++ [.v (.bool s3), lr 3 (xs3.take 3)] ++ [.v (.bool t3), lr 3 (ys3.take 3)])[i' * 4 + j']?).getD (.v undef))))) rfl ?_
    refine mC0 (ACall.le (dl DV.same (dl (DV.l (trow2 (K := 3) (F := ((s2, xs2.take 3), (t2, ys2.take 3))) (G := ((s3, xs3.take 3), (t3, ys3.take 3))))) dl0)) AV.le.rfl (aTMaxs (⟨s1, (xs1.take 3), t1, (ys1.take 3), fun _ _ _ h => h, rfl, rfl⟩ : IsT ([.v (.bool s1), lr 3 (xs1.take 3)] ++ [.v (.bool t1), lr 3 (ys1.take 3)]) 3 (zv s1 (val (xs1.take 3))) (zv t1 (val (ys1.take 3)))) (L := 3) (n0 := 2) (f := (fun i : Nat => if i = 0 then ((s2, xs2.take 3), (t2, ys2.take 3)) else ((s3, xs3.take 3), (t3, ys3.take 3)))) (M := 4) (by decide) (by decide) (by decide))) rfl rfl rfl ?_
    refine mN hTT (.box 27 ([.v (.bool false), .v (.slice none 0 0), .v (.bool false), .v (.slice none 0 0)])) rfl rfl rfl ?_
    refine mS hTT 10 (.box 27 (tn 4 (tmax (mkR (zv s1 (val (xs1.take 3))) (zv t1 (val (ys1.take 3)))) (fq (fun i : Nat => if i = 0 then ((s2, xs2.take 3), (t2, ys2.take 3)) else ((s3, xs3.take 3), (t3, ys3.take 3)))) 2))) rfl ?_
    refine mNil ?_
    refine tN ?_
    refine cSeq ?_
    obtain ⟨hm1, hm2, hm3⟩ := tmax_ge (mkR (zv s1 (val (xs1.take 3))) (zv t1 (val (ys1.take 3)))) (fq (fun i : Nat => if i = 0 then ((s2, xs2.take 3), (t2, ys2.take 3)) else ((s3, xs3.take 3), (t3, ys3.take 3)))) 2
    have hm20 : (mkR (zv s2 (val (xs2.take 3))) (zv t2 (val (ys2.take 3)))) ≤ (tmax (mkR (zv s1 (val (xs1.take 3))) (zv t1 (val (ys1.take 3)))) (fq (fun i : Nat => if i = 0 then ((s2, xs2.take 3), (t2, ys2.take 3)) else ((s3, xs3.take 3), (t3, ys3.take 3)))) 2) := hm2 0 (by decide)
    have hm21 : (mkR (zv s3 (val (xs3.take 3))) (zv t3 (val (ys3.take 3)))) ≤ (tmax (mkR (zv s1 (val (xs1.take 3))) (zv t1 (val (ys1.take 3)))) (fq (fun i : Nat => if i = 0 then ((s2, xs2.take 3), (t2, ys2.take 3)) else ((s3, xs3.take 3), (t3, ys3.take 3)))) 2) := hm2 1 (by decide)
    have hm4 : (tmax (mkR (zv s1 (val (xs1.take 3))) (zv t1 (val (ys1.take 3)))) (fq (fun i : Nat => if i = 0 then ((s2, xs2.take 3), (t2, ys2.take 3)) else ((s3, xs3.take 3), (t3, ys3.take 3)))) 2) = (mkR (zv s1 (val (xs1.take 3))) (zv t1 (val (ys1.take 3)))) ∨ (tmax (mkR (zv s1 (val (xs1.take 3))) (zv t1 (val (ys1.take 3)))) (fq (fun i : Nat => if i = 0 then ((s2, xs2.take 3), (t2, ys2.take 3)) else ((s3, xs3.take 3), (t3, ys3.take 3)))) 2) = (mkR (zv s2 (val (xs2.take 3))) (zv t2 (val (ys2.take 3)))) ∨ (tmax (mkR (zv s1 (val (xs1.take 3))) (zv t1 (val (ys1.take 3)))) (fq (fun i : Nat => if i = 0 then ((s2, xs2.take 3), (t2, ys2.take 3)) else ((s3, xs3.take 3), (t3, ys3.take 3)))) 2) = (mkR (zv s3 (val (xs3.take 3))) (zv t3 (val (ys3.take 3)))) := by rcases hm3 with h | ⟨i, hi, h⟩; exact Or.inl h; match i, hi with | 0, _ => exact Or.inr (Or.inl h) | 1, _ => exact Or.inr (Or.inr h)
    by_cases e1 : (tmax (mkR (zv s1 (val (xs1.take 3))) (zv t1 (val (ys1.take 3)))) (fq (fun i : Nat => if i = 0 then ((s2, xs2.take 3), (t2, ys2.take 3)) else ((s3, xs3.take 3), (t3, ys3.take 3)))) 2) = (mkR (zv s1 (val (xs1.take 3))) (zv t1 (val (ys1.take 3))))
    · skip
      refine cReg ?_
      refine mV hTT (.d (.agg (tn 4 (tmax (mkR (zv s1 (val (xs1.take 3))) (zv t1 (val (ys1.take 3)))) (fq (fun i : Nat => if i = 0 then ((s2, xs2.take 3), (t2, ys2.take 3)) else ((s3, xs3.take 3), (t3, ys3.take 3)))) 2)))) rfl ?_
      refine mV hTT (.d (.agg ([.v (.bool s1), lr 3 (xs1.take 3)] ++ [.v (.bool t1), lr 3 (ys1.take 3)]))) rfl ?_
      refine mC0 (aTCmp (ist_tn 4 (tmax (mkR (zv s1 (val (xs1.take 3))) (zv t1 (val (ys1.take 3)))) (fq (fun i : Nat => if i = 0 then ((s2, xs2.take 3), (t2, ys2.take 3)) else ((s3, xs3.take 3), (t3, ys3.take 3)))) 2)) (⟨s1, (xs1.take 3), t1, (ys1.take 3), fun _ _ _ h => h, rfl, rfl⟩ : IsT ([.v (.bool s1), lr 3 (xs1.take 3)] ++ [.v (.bool t1), lr 3 (ys1.take 3)]) 3 (zv s1 (val (xs1.take 3))) (zv t1 (val (ys1.take 3)))) (by decide) (by decide)) rfl rfl rfl ?_
      refine mV hTT (.d (.one (.v (.bool true)))) (evb (decide_eq_true (cmpQ_ge.2 (by simp only [mkR_self]; exact hm1)))) ?_
      refine mV hTT _ rfl ?_
      refine mV hTT (.d (.agg (tn 4 (tmax (mkR (zv s1 (val (xs1.take 3))) (zv t1 (val (ys1.take 3)))) (fq (fun i : Nat => if i = 0 then ((s2, xs2.take 3), (t2, ys2.take 3)) else ((s3, xs3.take 3), (t3, ys3.take 3)))) 2)))) rfl ?_
      refine mV hTT (.d (.agg ([.v (.bool s2), lr 3 (xs2.take 3)] ++ [.v (.bool t2), lr 3 (ys2.take 3)]))) rfl ?_
      refine mC0 (aTCmp (ist_tn 4 (tmax (mkR (zv s1 (val (xs1.take 3))) (zv t1 (val (ys1.take 3)))) (fq (fun i : Nat => if i = 0 then ((s2, xs2.take 3), (t2, ys2.take 3)) else ((s3, xs3.take 3), (t3, ys3.take 3)))) 2)) (⟨s2, (xs2.take 3), t2, (ys2.take 3), fun _ _ _ h => h, rfl, rfl⟩ : IsT ([.v (.bool s2), lr 3 (xs2.take 3)] ++ [.v (.bool t2), lr 3 (ys2.take 3)]) 3 (zv s2 (val (xs2.take 3))) (zv t2 (val (ys2.take 3)))) (by decide) (by decide)) rfl rfl rfl ?_
      refine mV hTT (.d (.one (.v (.bool true)))) (evb (decide_eq_true (cmpQ_ge.2 (by simp only [mkR_self]; exact hm20)))) ?_
      refine mV hTT _ rfl ?_
      refine mV hTT _ rfl ?_
      refine mV hTT (.d (.agg (tn 4 (tmax (mkR (zv s1 (val (xs1.take 3))) (zv t1 (val (ys1.take 3)))) (fq (fun i : Nat => if i = 0 then ((s2, xs2.take 3), (t2, ys2.take 3)) else ((s3, xs3.take 3), (t3, ys3.take 3)))) 2)))) rfl ?_
      refine mV hTT (.d (.agg ([.v (.bool s3), lr 3 (xs3.take 3)] ++ [.v (.bool t3), lr 3 (ys3.take 3)]))) rfl ?_
      refine mC0 (aTCmp (ist_tn 4 (tmax (mkR (zv s1 (val (xs1.take 3))) (zv t1 (val (ys1.take 3)))) (fq (fun i : Nat => if i = 0 then ((s2, xs2.take 3), (t2, ys2.take 3)) else ((s3, xs3.take 3), (t3, ys3.take 3)))) 2)) (⟨s3, (xs3.take 3), t3, (ys3.take 3), fun _ _ _ h => h, rfl, rfl⟩ : IsT ([.v (.bool s3), lr 3 (xs3.take 3)] ++ [.v (.bool t3), lr 3 (ys3.take 3)]) 3 (zv s3 (val (xs3.take 3))) (zv t3 (val (ys3.take 3)))) (by decide) (by decide)) rfl rfl rfl ?_
      refine mV hTT (.d (.one (.v (.bool true)))) (evb (decide_eq_true (cmpQ_ge.2 (by simp only [mkR_self]; exact hm21)))) ?_
      refine mV hTT _ rfl ?_
      refine mV hTT _ rfl ?_
      refine mV hTT (.d (.agg (tn 4 (tmax (mkR (zv s1 (val (xs1.take 3))) (zv t1 (val (ys1.take 3)))) (fq (fun i : Nat => if i = 0 then ((s2, xs2.take 3), (t2, ys2.take 3)) else ((s3, xs3.take 3), (t3, ys3.take 3)))) 2)))) rfl ?_
      refine mV hTT (.d (.agg ([.v (.bool s1), lr 3 (xs1.take 3)] ++ [.v (.bool t1), lr 3 (ys1.take 3)]))) rfl ?_
      refine mC0 (aTCmp (ist_tn 4 (tmax (mkR (zv s1 (val (xs1.take 3))) (zv t1 (val (ys1.take 3)))) (fq (fun i : Nat => if i = 0 then ((s2, xs2.take 3), (t2, ys2.take 3)) else ((s3, xs3.take 3), (t3, ys3.take 3)))) 2)) (⟨s1, (xs1.take 3), t1, (ys1.take 3), fun _ _ _ h => h, rfl, rfl⟩ : IsT ([.v (.bool s1), lr 3 (xs1.take 3)] ++ [.v (.bool t1), lr 3 (ys1.take 3)]) 3 (zv s1 (val (xs1.take 3))) (zv t1 (val (ys1.take 3)))) (by decide) (by decide)) rfl rfl rfl ?_
      refine mV hTT (.d (.one (.v (.bool true)))) (evb (beq_iff_eq.2 (cmpQ_eq (by simp only [mkR_self]; exact e1)))) ?_
      refine mV hTT _ rfl ?_
      refine mG rfl rfl ?_
      refine mG rfl rfl ?_
      refine mG rfl rfl ?_
      refine mG rfl rfl ?_
      refine mV hTT _ rfl ?_
      refine mV hTT _ rfl ?_
      refine mG rfl rfl ?_
      refine mG rfl rfl ?_
      refine mG rfl rfl ?_
      refine mG rfl rfl ?_
      refine mV hTT _ rfl ?_
      refine mV hTT _ rfl ?_
      refine mV hTT _ rfl ?_
      refine mV hTT (.d (.agg ([.v (.bool s1), lr 3 (xs1.take 3)] ++ [.v (.bool t1), lr 3 (ys1.take 3)]))) rfl ?_
      refine mV hTT (.d (.agg ([.v (.bool s2), lr 3 (xs2.take 3)] ++ [.v (.bool t2), lr 3 (ys2.take 3)]))) rfl ?_
      refine mC0 (aTSub (⟨s1, (xs1.take 3), t1, (ys1.take 3), fun _ _ _ h => h, rfl, rfl⟩ : IsT ([.v (.bool s1), lr 3 (xs1.take 3)] ++ [.v (.bool t1), lr 3 (ys1.take 3)]) 3 (zv s1 (val (xs1.take 3))) (zv t1 (val (ys1.take 3)))) (⟨s2, (xs2.take 3), t2, (ys2.take 3), fun _ _ _ h => h, rfl, rfl⟩ : IsT ([.v (.bool s2), lr 3 (xs2.take 3)] ++ [.v (.bool t2), lr 3 (ys2.take 3)]) 3 (zv s2 (val (xs2.take 3))) (zv t2 (val (ys2.take 3)))) (M := 10) (by decide) (by decide)) rfl rfl rfl ?_
      refine mV hTT (.d (.agg (zn 10 (Rat.num ((mkR (zv s1 (val (xs1.take 3))) (zv t1 (val (ys1.take 3)))) - (mkR (zv s2 (val (xs2.take 3))) (zv t2 (val (ys2.take 3))))))))) rfl ?_
      refine mC0 (aSign (isn 10 (Rat.num ((mkR (zv s1 (val (xs1.take 3))) (zv t1 (val (ys1.take 3)))) - (mkR (zv s2 (val (xs2.take 3))) (zv t2 (val (ys2.take 3)))))))) rfl rfl rfl ?_
      refine mV hTT _ rfl ?_
      refine mV hTT (.d (.one (.v (.bool true)))) (evb (beq_iff_eq.2 (by exact sgn_sub _ _))) ?_
      refine mV hTT _ rfl ?_
      refine mV hTT _ rfl ?_
      refine mC0 (aWakes4) rfl rfl rfl ?_
      refine mV hTT _ rfl ?_
      refine mV hTT _ rfl ?_
      refine mNil ?_
      refine tN ?_
      refine cRet ?_
      exact rQ rfl (AV.le.rfl)
    · skip
      by_cases e2 : (tmax (mkR (zv s1 (val (xs1.take 3))) (zv t1 (val (ys1.take 3)))) (fq (fun i : Nat => if i = 0 then ((s2, xs2.take 3), (t2, ys2.take 3)) else ((s3, xs3.take 3), (t3, ys3.take 3)))) 2) = (mkR (zv s2 (val (xs2.take 3))) (zv t2 (val (ys2.take 3))))
      · skip
        refine cReg ?_
        refine mV hTT (.d (.agg (tn 4 (tmax (mkR (zv s1 (val (xs1.take 3))) (zv t1 (val (ys1.take 3)))) (fq (fun i : Nat => if i = 0 then ((s2, xs2.take 3), (t2, ys2.take 3)) else ((s3, xs3.take 3), (t3, ys3.take 3)))) 2)))) rfl ?_
        refine mV hTT (.d (.agg ([.v (.bool s1), lr 3 (xs1.take 3)] ++ [.v (.bool t1), lr 3 (ys1.take 3)]))) rfl ?_
        refine mC0 (aTCmp (ist_tn 4 (tmax (mkR (zv s1 (val (xs1.take 3))) (zv t1 (val (ys1.take 3)))) (fq (fun i : Nat => if i = 0 then ((s2, xs2.take 3), (t2, ys2.take 3)) else ((s3, xs3.take 3), (t3, ys3.take 3)))) 2)) (⟨s1, (xs1.take 3), t1, (ys1.take 3), fun _ _ _ h => h, rfl, rfl⟩ : IsT ([.v (.bool s1), lr 3 (xs1.take 3)] ++ [.v (.bool t1), lr 3 (ys1.take 3)]) 3 (zv s1 (val (xs1.take 3))) (zv t1 (val (ys1.take 3)))) (by decide) (by decide)) rfl rfl rfl ?_
        refine mV hTT (.d (.one (.v (.bool true)))) (evb (decide_eq_true (cmpQ_ge.2 (by simp only [mkR_self]; exact hm1)))) ?_
        refine mV hTT _ rfl ?_
        refine mV hTT (.d (.agg (tn 4 (tmax (mkR (zv s1 (val (xs1.take 3))) (zv t1 (val (ys1.take 3)))) (fq (fun i : Nat => if i = 0 then ((s2, xs2.take 3), (t2, ys2.take 3)) else ((s3, xs3.take 3), (t3, ys3.take 3)))) 2)))) rfl ?_
        refine mV hTT (.d (.agg ([.v (.bool s2), lr 3 (xs2.take 3)] ++ [.v (.bool t2), lr 3 (ys2.take 3)]))) rfl ?_
        refine mC0 (aTCmp (ist_tn 4 (tmax (mkR (zv s1 (val (xs1.take 3))) (zv t1 (val (ys1.take 3)))) (fq (fun i : Nat => if i = 0 then ((s2, xs2.take 3), (t2, ys2.take 3)) else ((s3, xs3.take 3), (t3, ys3.take 3)))) 2)) (⟨s2, (xs2.take 3), t2, (ys2.take 3), fun _ _ _ h => h, rfl, rfl⟩ : IsT ([.v (.bool s2), lr 3 (xs2.take 3)] ++ [.v (.bool t2), lr 3 (ys2.take 3)]) 3 (zv s2 (val (xs2.take 3))) (zv t2 (val (ys2.take 3)))) (by decide) (by decide)) rfl rfl rfl ?_
        refine mV hTT (.d (.one (.v (.bool true)))) (evb (decide_eq_true (cmpQ_ge.2 (by simp only [mkR_self]; exact hm20)))) ?_
        refine mV hTT _ rfl ?_
        refine mV hTT _ rfl ?_
        refine mV hTT (.d (.agg (tn 4 (tmax (mkR (zv s1 (val (xs1.take 3))) (zv t1 (val (ys1.take 3)))) (fq (fun i : Nat => if i = 0 then ((s2, xs2.take 3), (t2, ys2.take 3)) else ((s3, xs3.take 3), (t3, ys3.take 3)))) 2)))) rfl ?_
        refine mV hTT (.d (.agg ([.v (.bool s3), lr 3 (xs3.take 3)] ++ [.v (.bool t3), lr 3 (ys3.take 3)]))) rfl ?_
        refine mC0 (aTCmp (ist_tn 4 (tmax (mkR (zv s1 (val (xs1.take 3))) (zv t1 (val (ys1.take 3)))) (fq (fun i : Nat => if i = 0 then ((s2, xs2.take 3), (t2, ys2.take 3)) else ((s3, xs3.take 3), (t3, ys3.take 3)))) 2)) (⟨s3, (xs3.take 3), t3, (ys3.take 3), fun _ _ _ h => h, rfl, rfl⟩ : IsT ([.v (.bool s3), lr 3 (xs3.take 3)] ++ [.v (.bool t3), lr 3 (ys3.take 3)]) 3 (zv s3 (val (xs3.take 3))) (zv t3 (val (ys3.take 3)))) (by decide) (by decide)) rfl rfl rfl ?_
        refine mV hTT (.d (.one (.v (.bool true)))) (evb (decide_eq_true (cmpQ_ge.2 (by simp only [mkR_self]; exact hm21)))) ?_
        refine mV hTT _ rfl ?_
        refine mV hTT _ rfl ?_
        refine mV hTT (.d (.agg (tn 4 (tmax (mkR (zv s1 (val (xs1.take 3))) (zv t1 (val (ys1.take 3)))) (fq (fun i : Nat => if i = 0 then ((s2, xs2.take 3), (t2, ys2.take 3)) else ((s3, xs3.take 3), (t3, ys3.take 3)))) 2)))) rfl ?_
        refine mV hTT (.d (.agg ([.v (.bool s1), lr 3 (xs1.take 3)] ++ [.v (.bool t1), lr 3 (ys1.take 3)]))) rfl ?_
        refine mC0 (aTCmp (ist_tn 4 (tmax (mkR (zv s1 (val (xs1.take 3))) (zv t1 (val (ys1.take 3)))) (fq (fun i : Nat => if i = 0 then ((s2, xs2.take 3), (t2, ys2.take 3)) else ((s3, xs3.take 3), (t3, ys3.take 3)))) 2)) (⟨s1, (xs1.take 3), t1, (ys1.take 3), fun _ _ _ h => h, rfl, rfl⟩ : IsT ([.v (.bool s1), lr 3 (xs1.take 3)] ++ [.v (.bool t1), lr 3 (ys1.take 3)]) 3 (zv s1 (val (xs1.take 3))) (zv t1 (val (ys1.take 3)))) (by decide) (by decide)) rfl rfl rfl ?_
        refine mV hTT (.d (.one (.v (.bool false)))) (evb (beq_eq_false_iff_ne.2 (fun h => e1 (by have h2 := cmpQ_zero.1 h; simp only [mkR_self] at h2; exact h2)))) ?_
        refine mV hTT _ rfl ?_
        refine mV hTT (.d (.agg (tn 4 (tmax (mkR (zv s1 (val (xs1.take 3))) (zv t1 (val (ys1.take 3)))) (fq (fun i : Nat => if i = 0 then ((s2, xs2.take 3), (t2, ys2.take 3)) else ((s3, xs3.take 3), (t3, ys3.take 3)))) 2)))) rfl ?_
        refine mV hTT (.d (.agg ([.v (.bool s2), lr 3 (xs2.take 3)] ++ [.v (.bool t2), lr 3 (ys2.take 3)]))) rfl ?_
        refine mC0 (aTCmp (ist_tn 4 (tmax (mkR (zv s1 (val (xs1.take 3))) (zv t1 (val (ys1.take 3)))) (fq (fun i : Nat => if i = 0 then ((s2, xs2.take 3), (t2, ys2.take 3)) else ((s3, xs3.take 3), (t3, ys3.take 3)))) 2)) (⟨s2, (xs2.take 3), t2, (ys2.take 3), fun _ _ _ h => h, rfl, rfl⟩ : IsT ([.v (.bool s2), lr 3 (xs2.take 3)] ++ [.v (.bool t2), lr 3 (ys2.take 3)]) 3 (zv s2 (val (xs2.take 3))) (zv t2 (val (ys2.take 3)))) (by decide) (by decide)) rfl rfl rfl ?_
        refine mV hTT (.d (.one (.v (.bool true)))) (evb (beq_iff_eq.2 (cmpQ_eq (by simp only [mkR_self]; exact e2)))) ?_
        refine mV hTT _ rfl ?_
        refine mV hTT _ rfl ?_
        refine mG rfl rfl ?_
        refine mG rfl rfl ?_
        refine mG rfl rfl ?_
        refine mG rfl rfl ?_
        refine mV hTT _ rfl ?_
        refine mV hTT _ rfl ?_
        refine mV hTT _ rfl ?_
        refine mV hTT (.d (.agg ([.v (.bool s1), lr 3 (xs1.take 3)] ++ [.v (.bool t1), lr 3 (ys1.take 3)]))) rfl ?_
        refine mV hTT (.d (.agg ([.v (.bool s2), lr 3 (xs2.take 3)] ++ [.v (.bool t2), lr 3 (ys2.take 3)]))) rfl ?_
        refine mC0 (aTSub (⟨s1, (xs1.take 3), t1, (ys1.take 3), fun _ _ _ h => h, rfl, rfl⟩ : IsT ([.v (.bool s1), lr 3 (xs1.take 3)] ++ [.v (.bool t1), lr 3 (ys1.take 3)]) 3 (zv s1 (val (xs1.take 3))) (zv t1 (val (ys1.take 3)))) (⟨s2, (xs2.take 3), t2, (ys2.take 3), fun _ _ _ h => h, rfl, rfl⟩ : IsT ([.v (.bool s2), lr 3 (xs2.take 3)] ++ [.v (.bool t2), lr 3 (ys2.take 3)]) 3 (zv s2 (val (xs2.take 3))) (zv t2 (val (ys2.take 3)))) (M := 10) (by decide) (by decide)) rfl rfl rfl ?_
        refine mV hTT (.d (.agg (zn 10 (Rat.num ((mkR (zv s1 (val (xs1.take 3))) (zv t1 (val (ys1.take 3)))) - (mkR (zv s2 (val (xs2.take 3))) (zv t2 (val (ys2.take 3))))))))) rfl ?_
        refine mC0 (aSign (isn 10 (Rat.num ((mkR (zv s1 (val (xs1.take 3))) (zv t1 (val (ys1.take 3)))) - (mkR (zv s2 (val (xs2.take 3))) (zv t2 (val (ys2.take 3)))))))) rfl rfl rfl ?_
        refine mV hTT _ rfl ?_
        refine mV hTT (.d (.one (.v (.bool true)))) (evb (beq_iff_eq.2 (by exact sgn_sub _ _))) ?_
        refine mV hTT _ rfl ?_
        refine mV hTT _ rfl ?_
        refine mC0 (aWakes4) rfl rfl rfl ?_
        refine mV hTT _ rfl ?_
        refine mV hTT _ rfl ?_
        refine mNil ?_
        refine tN ?_
        refine cRet ?_
        exact rQ rfl (AV.le.rfl)
      · skip
        have e3 := (hm4.resolve_left e1).resolve_left e2
        refine cReg ?_
        refine mV hTT (.d (.agg (tn 4 (tmax (mkR (zv s1 (val (xs1.take 3))) (zv t1 (val (ys1.take 3)))) (fq (fun i : Nat => if i = 0 then ((s2, xs2.take 3), (t2, ys2.take 3)) else ((s3, xs3.take 3), (t3, ys3.take 3)))) 2)))) rfl ?_
        refine mV hTT (.d (.agg ([.v (.bool s1), lr 3 (xs1.take 3)] ++ [.v (.bool t1), lr 3 (ys1.take 3)]))) rfl ?_
        refine mC0 (aTCmp (ist_tn 4 (tmax (mkR (zv s1 (val (xs1.take 3))) (zv t1 (val (ys1.take 3)))) (fq (fun i : Nat => if i = 0 then ((s2, xs2.take 3), (t2, ys2.take 3)) else ((s3, xs3.take 3), (t3, ys3.take 3)))) 2)) (⟨s1, (xs1.take 3), t1, (ys1.take 3), fun _ _ _ h => h, rfl, rfl⟩ : IsT ([.v (.bool s1), lr 3 (xs1.take 3)] ++ [.v (.bool t1), lr 3 (ys1.take 3)]) 3 (zv s1 (val (xs1.take 3))) (zv t1 (val (ys1.take 3)))) (by decide) (by decide)) rfl rfl rfl ?_
        refine mV hTT (.d (.one (.v (.bool true)))) (evb (decide_eq_true (cmpQ_ge.2 (by simp only [mkR_self]; exact hm1)))) ?_
        refine mV hTT _ rfl ?_
        refine mV hTT (.d (.agg (tn 4 (tmax (mkR (zv s1 (val (xs1.take 3))) (zv t1 (val (ys1.take 3)))) (fq (fun i : Nat => if i = 0 then ((s2, xs2.take 3), (t2, ys2.take 3)) else ((s3, xs3.take 3), (t3, ys3.take 3)))) 2)))) rfl ?_
        refine mV hTT (.d (.agg ([.v (.bool s2), lr 3 (xs2.take 3)] ++ [.v (.bool t2), lr 3 (ys2.take 3)]))) rfl ?_
        refine mC0 (aTCmp (ist_tn 4 (tmax (mkR (zv s1 (val (xs1.take 3))) (zv t1 (val (ys1.take 3)))) (fq (fun i : Nat => if i = 0 then ((s2, xs2.take 3), (t2, ys2.take 3)) else ((s3, xs3.take 3), (t3, ys3.take 3)))) 2)) (⟨s2, (xs2.take 3), t2, (ys2.take 3), fun _ _ _ h => h, rfl, rfl⟩ : IsT ([.v (.bool s2), lr 3 (xs2.take 3)] ++ [.v (.bool t2), lr 3 (ys2.take 3)]) 3 (zv s2 (val (xs2.take 3))) (zv t2 (val (ys2.take 3)))) (by decide) (by decide)) rfl rfl rfl ?_
        refine mV hTT (.d (.one (.v (.bool true)))) (evb (decide_eq_true (cmpQ_ge.2 (by simp only [mkR_self]; exact hm20)))) ?_
        refine mV hTT _ rfl ?_
        refine mV hTT _ rfl ?_
        refine mV hTT (.d (.agg (tn 4 (tmax (mkR (zv s1 (val (xs1.take 3))) (zv t1 (val (ys1.take 3)))) (fq (fun i : Nat => if i = 0 then ((s2, xs2.take 3), (t2, ys2.take 3)) else ((s3, xs3.take 3), (t3, ys3.take 3)))) 2)))) rfl ?_
        refine mV hTT (.d (.agg ([.v (.bool s3), lr 3 (xs3.take 3)] ++ [.v (.bool t3), lr 3 (ys3.take 3)]))) rfl ?_
        refine mC0 (aTCmp (ist_tn 4 (tmax (mkR (zv s1 (val (xs1.take 3))) (zv t1 (val (ys1.take 3)))) (fq (fun i : Nat => if i = 0 then ((s2, xs2.take 3), (t2, ys2.take 3)) else ((s3, xs3.take 3), (t3, ys3.take 3)))) 2)) (⟨s3, (xs3.take 3), t3, (ys3.take 3), fun _ _ _ h => h, rfl, rfl⟩ : IsT ([.v (.bool s3), lr 3 (xs3.take 3)] ++ [.v (.bool t3), lr 3 (ys3.take 3)]) 3 (zv s3 (val (xs3.take 3))) (zv t3 (val (ys3.take 3)))) (by decide) (by decide)) rfl rfl rfl ?_
        refine mV hTT (.d (.one (.v (.bool true)))) (evb (decide_eq_true (cmpQ_ge.2 (by simp only [mkR_self]; exact hm21)))) ?_
        refine mV hTT _ rfl ?_
        refine mV hTT _ rfl ?_
        refine mV hTT (.d (.agg (tn 4 (tmax (mkR (zv s1 (val (xs1.take 3))) (zv t1 (val (ys1.take 3)))) (fq (fun i : Nat => if i = 0 then ((s2, xs2.take 3), (t2, ys2.take 3)) else ((s3, xs3.take 3), (t3, ys3.take 3)))) 2)))) rfl ?_
        refine mV hTT (.d (.agg ([.v (.bool s1), lr 3 (xs1.take 3)] ++ [.v (.bool t1), lr 3 (ys1.take 3)]))) rfl ?_
        refine mC0 (aTCmp (ist_tn 4 (tmax (mkR (zv s1 (val (xs1.take 3))) (zv t1 (val (ys1.take 3)))) (fq (fun i : Nat => if i = 0 then ((s2, xs2.take 3), (t2, ys2.take 3)) else ((s3, xs3.take 3), (t3, ys3.take 3)))) 2)) (⟨s1, (xs1.take 3), t1, (ys1.take 3), fun _ _ _ h => h, rfl, rfl⟩ : IsT ([.v (.bool s1), lr 3 (xs1.take 3)] ++ [.v (.bool t1), lr 3 (ys1.take 3)]) 3 (zv s1 (val (xs1.take 3))) (zv t1 (val (ys1.take 3)))) (by decide) (by decide)) rfl rfl rfl ?_
        refine mV hTT (.d (.one (.v (.bool false)))) (evb (beq_eq_false_iff_ne.2 (fun h => e1 (by have h2 := cmpQ_zero.1 h; simp only [mkR_self] at h2; exact h2)))) ?_
        refine mV hTT _ rfl ?_
        refine mV hTT (.d (.agg (tn 4 (tmax (mkR (zv s1 (val (xs1.take 3))) (zv t1 (val (ys1.take 3)))) (fq (fun i : Nat => if i = 0 then ((s2, xs2.take 3), (t2, ys2.take 3)) else ((s3, xs3.take 3), (t3, ys3.take 3)))) 2)))) rfl ?_
        refine mV hTT (.d (.agg ([.v (.bool s2), lr 3 (xs2.take 3)] ++ [.v (.bool t2), lr 3 (ys2.take 3)]))) rfl ?_
        refine mC0 (aTCmp (ist_tn 4 (tmax (mkR (zv s1 (val (xs1.take 3))) (zv t1 (val (ys1.take 3)))) (fq (fun i : Nat => if i = 0 then ((s2, xs2.take 3), (t2, ys2.take 3)) else ((s3, xs3.take 3), (t3, ys3.take 3)))) 2)) (⟨s2, (xs2.take 3), t2, (ys2.take 3), fun _ _ _ h => h, rfl, rfl⟩ : IsT ([.v (.bool s2), lr 3 (xs2.take 3)] ++ [.v (.bool t2), lr 3 (ys2.take 3)]) 3 (zv s2 (val (xs2.take 3))) (zv t2 (val (ys2.take 3)))) (by decide) (by decide)) rfl rfl rfl ?_
        refine mV hTT (.d (.one (.v (.bool false)))) (evb (beq_eq_false_iff_ne.2 (fun h => e2 (by have h2 := cmpQ_zero.1 h; simp only [mkR_self] at h2; exact h2)))) ?_
        refine mV hTT _ rfl ?_
        refine mV hTT _ rfl ?_
        refine mV hTT (.d (.agg (tn 4 (tmax (mkR (zv s1 (val (xs1.take 3))) (zv t1 (val (ys1.take 3)))) (fq (fun i : Nat => if i = 0 then ((s2, xs2.take 3), (t2, ys2.take 3)) else ((s3, xs3.take 3), (t3, ys3.take 3)))) 2)))) rfl ?_
        refine mV hTT (.d (.agg ([.v (.bool s3), lr 3 (xs3.take 3)] ++ [.v (.bool t3), lr 3 (ys3.take 3)]))) rfl ?_
        refine mC0 (aTCmp (ist_tn 4 (tmax (mkR (zv s1 (val (xs1.take 3))) (zv t1 (val (ys1.take 3)))) (fq (fun i : Nat => if i = 0 then ((s2, xs2.take 3), (t2, ys2.take 3)) else ((s3, xs3.take 3), (t3, ys3.take 3)))) 2)) (⟨s3, (xs3.take 3), t3, (ys3.take 3), fun _ _ _ h => h, rfl, rfl⟩ : IsT ([.v (.bool s3), lr 3 (xs3.take 3)] ++ [.v (.bool t3), lr 3 (ys3.take 3)]) 3 (zv s3 (val (xs3.take 3))) (zv t3 (val (ys3.take 3)))) (by decide) (by decide)) rfl rfl rfl ?_
        refine mV hTT (.d (.one (.v (.bool true)))) (evb (beq_iff_eq.2 (cmpQ_eq (by simp only [mkR_self]; exact e3)))) ?_
        refine mV hTT _ rfl ?_
        refine mV hTT _ rfl ?_
        refine mV hTT _ rfl ?_
        refine mV hTT (.d (.agg ([.v (.bool s1), lr 3 (xs1.take 3)] ++ [.v (.bool t1), lr 3 (ys1.take 3)]))) rfl ?_
        refine mV hTT (.d (.agg ([.v (.bool s2), lr 3 (xs2.take 3)] ++ [.v (.bool t2), lr 3 (ys2.take 3)]))) rfl ?_
        refine mC0 (aTSub (⟨s1, (xs1.take 3), t1, (ys1.take 3), fun _ _ _ h => h, rfl, rfl⟩ : IsT ([.v (.bool s1), lr 3 (xs1.take 3)] ++ [.v (.bool t1), lr 3 (ys1.take 3)]) 3 (zv s1 (val (xs1.take 3))) (zv t1 (val (ys1.take 3)))) (⟨s2, (xs2.take 3), t2, (ys2.take 3), fun _ _ _ h => h, rfl, rfl⟩ : IsT ([.v (.bool s2), lr 3 (xs2.take 3)] ++ [.v (.bool t2), lr 3 (ys2.take 3)]) 3 (zv s2 (val (xs2.take 3))) (zv t2 (val (ys2.take 3)))) (M := 10) (by decide) (by decide)) rfl rfl rfl ?_
        refine mV hTT (.d (.agg (zn 10 (Rat.num ((mkR (zv s1 (val (xs1.take 3))) (zv t1 (val (ys1.take 3)))) - (mkR (zv s2 (val (xs2.take 3))) (zv t2 (val (ys2.take 3))))))))) rfl ?_
        refine mC0 (aSign (isn 10 (Rat.num ((mkR (zv s1 (val (xs1.take 3))) (zv t1 (val (ys1.take 3)))) - (mkR (zv s2 (val (xs2.take 3))) (zv t2 (val (ys2.take 3)))))))) rfl rfl rfl ?_
        refine mV hTT _ rfl ?_
        refine mV hTT (.d (.one (.v (.bool true)))) (evb (beq_iff_eq.2 (by exact sgn_sub _ _))) ?_
        refine mV hTT _ rfl ?_
        refine mV hTT _ rfl ?_
        refine mC0 (aWakes4) rfl rfl rfl ?_
        refine mV hTT _ rfl ?_
        refine mV hTT _ rfl ?_
        refine mNil ?_
        refine tN ?_
        refine cRet ?_
        exact rQ rfl (AV.le.rfl)

set_option maxRecDepth 100000 in
set_option maxHeartbeats 4000000 in
theorem aRatioMakes {L1 L2 : Nat} {s1 s2 : Bool} {xs1 xs2 : List Nat} {i0 k0 : Int} (hL1 : L1 ≤ 9223372036854775807) (hL2 : L2 ≤ 9223372036854775807) (h1 : -9223372036854775808 ≤ i0) (h2 : i0 ≤ 9223372036854775807) (h3 : -9223372036854775808 ≤ k0) (h4 : k0 ≤ 9223372036854775807) : ACall Try.prog 3 [.agg [.v (.bool s1), lr L1 xs1], .agg [.v (.bool s2), lr L2 xs2], .one (.v (.int .i64 i0)), .one (.v (.int .i64 k0))] (.d (.one (.v (.bool true)))) := by
  refine acallN hTT 94 [.tmp 8] Try.func3 rfl rfl rfl rfl rfl ?_
  refine cSeq ?_
  refine cReg ?_
  refine mN hTT (.box 24 ([.v (.bool s1), lr L1 xs1])) rfl rfl rfl ?_
  refine mN hTT (.box 24 ([.v (.bool s2), lr L2 xs2])) rfl rfl rfl ?_
  refine mV hTT _ rfl ?_
  refine mNil ?_
  refine tN ?_
  refine cSeq ?_
  refine cDrawK hTT 4 (by kernel_rfl) (by kernel_rfl) (by kernel_rfl) ?_
  refine .cons (OpS.V (.d (.agg ([.v (.bool s1), lr L1 xs1]))) rfl) ?_
  refine .cons (OpS.C0 (aKInt (K := L1) (k := 8) (s := s1) (xs := xs1) (by omega) (by omega)) rfl rfl rfl) ?_
  refine .cons (OpS.V (.d (.agg ([.v (.bool s2), lr L2 xs2]))) rfl) ?_
  refine .cons (OpS.C0 (aKInt (K := L2) (k := 8) (s := s2) (xs := xs2) (by omega) (by omega)) rfl rfl rfl) ?_
  refine .nil ?_
  refine mS hTT 4 (.box 24 ([.v (.bool s1), lr 8 (xs1.take 8)])) rfl ?_
  refine mS hTT 5 (.box 24 ([.v (.bool s2), lr 8 (xs2.take 8)])) rfl ?_
  refine mNil ?_
  refine tN ?_
  refine cSeq ?_
  by_cases hy : (zv s2 (val (xs2.take 8))) = 0
  · skip
    refine cReg ?_
    refine mV hTT (.d (.agg ([.v (.bool s1), lr 8 (xs1.take 8)]))) rfl ?_
    refine mV hTT (.d (.agg ([.v (.bool s2), lr 8 (xs2.take 8)]))) rfl ?_
    refine mC0 (aTMake0 (iszr 8 s1 (xs1.take 8)) (iszr 8 s2 (xs2.take 8)) hy (by decide)) rfl rfl rfl ?_
    refine mV hTT _ rfl ?_
    refine mV hTT _ rfl ?_
    refine mV hTT _ rfl ?_
    refine mN hTT (.box 27 ([.v (.bool false), .v (.slice none 0 0), .v (.bool false), .v (.slice none 0 0)])) rfl rfl rfl ?_
    refine mS hTT 9 (.box 27 ([.v (.bool false), .v (.slice none 0 0), .v (.bool false), .v (.slice none 0 0)])) rfl ?_
    refine mV hTT _ rfl ?_
    refine mNil ?_
    refine tN ?_
    refine cSeq ?_
    refine cReg ?_
    refine mV hTT (.d (.agg ([.v (.bool s2), lr 8 (xs2.take 8)]))) rfl ?_
    refine mC0 (aRFrom (iszr 8 s2 (xs2.take 8)) (M := 24) (by decide) (by decide)) rfl rfl rfl ?_
    refine mN hTT (.box 34 ([.v (.slice none 0 0), .v (.bool false)])) rfl rfl rfl ?_
    refine mS hTT 11 (.box 34 (rn 24 (zv s2 (val (xs2.take 8))))) rfl ?_
    refine mNil ?_
    refine tN ?_
    refine cSeq ?_
    refine cSeq ?_
    refine cReg ?_
    refine mV hTT (.d (.agg (rn 24 (zv s2 (val (xs2.take 8)))))) rfl ?_
    refine mC0 (aRZero (isr 24 (zv s2 (val (xs2.take 8))))) rfl rfl rfl ?_
    refine mNil ?_
    refine tN ?_
    refine cView 27 (.d (.one (.v (.bool true)))) rfl (le_bool (decide_eq_true hy)) ?_
    refine cT rfl ?_
    refine cSeq ?_
    refine cReg ?_
    refine mV hTT _ rfl ?_
    refine mV hTT (.d (.one (.v (.bool false)))) rfl ?_
    refine mV hTT _ rfl ?_
    refine mV hTT (.ptr 9 0) rfl ?_
    refine mV hTT (.d (.agg ([.v (.bool false), .v (.slice none 0 0)]))) rfl ?_
    refine mC0 (aZero isn_nil) rfl rfl rfl ?_
    refine mView 33 (.d (.one (.v (.bool true)))) rfl (le_bool (decide_eq_true rfl)) ?_
    refine mV hTT (.d (.one (.v (.bool false)))) rfl ?_
    refine mV hTT _ rfl ?_
    refine mV hTT _ rfl ?_
    refine mV hTT (.ptr 9 2) rfl ?_
    refine mV hTT (.d (.agg ([.v (.bool false), .v (.slice none 0 0)]))) rfl ?_
    refine mC0 (aZero isn_nil) rfl rfl rfl ?_
    refine mView 39 (.d (.one (.v (.bool true)))) rfl (le_bool (decide_eq_true rfl)) ?_
    refine mV hTT (.d (.one (.v (.bool false)))) rfl ?_
    refine mV hTT _ rfl ?_
    refine mNil ?_
    refine tN ?_
    refine cF rfl ?_
    refine cSkip ?_
    refine tN ?_
    refine cSeq ?_
    by_cases hk : k0 = 0
    · skip
      refine cReg ?_
      refine mV hTT _ rfl ?_
      refine mV hTT _ rfl ?_
      refine mC0 (aTOf0 (n := i0) (d := k0) h1 h2 h3 h4 hk) rfl rfl rfl ?_
      refine mV hTT _ rfl ?_
      refine mV hTT _ rfl ?_
      refine mV hTT _ rfl ?_
      refine mN hTT (.box 27 ([.v (.bool false), .v (.slice none 0 0), .v (.bool false), .v (.slice none 0 0)])) rfl rfl rfl ?_
      refine mS hTT 12 (.box 27 ([.v (.bool false), .v (.slice none 0 0), .v (.bool false), .v (.slice none 0 0)])) rfl ?_
      refine mV hTT _ rfl ?_
      refine mNil ?_
      refine tN ?_
      refine cSeq ?_
      refine cSeq ?_
      refine cReg ?_
      refine mV hTT _ rfl ?_
      refine mV hTT (.d (.one (.v (.bool true)))) (evb (by rw [hk]; rfl)) ?_
      refine mNil ?_
      refine tN ?_
      refine cT rfl ?_
      refine cSeq ?_
      refine cReg ?_
      refine mV hTT _ rfl ?_
      refine mV hTT (.d (.one (.v (.bool true)))) rfl ?_
      refine mV hTT _ rfl ?_
      refine mV hTT (.ptr 12 0) rfl ?_
      refine mV hTT (.d (.agg ([.v (.bool false), .v (.slice none 0 0)]))) rfl ?_
      refine mC0 (aZero isn_nil) rfl rfl rfl ?_
      refine mView 66 (.d (.one (.v (.bool true)))) rfl (le_bool (decide_eq_true rfl)) ?_
      refine mV hTT _ rfl ?_
      refine mV hTT _ rfl ?_
      refine mC0 (aWakes4) rfl rfl rfl ?_
      refine mV hTT _ rfl ?_
      refine mV hTT _ rfl ?_
      refine mNil ?_
      refine tN ?_
      refine cRet ?_
      refine tR ?_
      exact rQ rfl (AV.le.rfl)
    · skip
      refine cReg ?_
      refine mV hTT _ rfl ?_
      refine mV hTT _ rfl ?_
      refine mC0 (aTOf (n := i0) (d := k0) h1 h2 h3 h4 hk) rfl rfl rfl ?_
      refine mV hTT _ rfl ?_
      refine mV hTT _ rfl ?_
      refine mV hTT _ rfl ?_
      refine mN hTT (.box 27 ([.v (.bool false), .v (.slice none 0 0), .v (.bool false), .v (.slice none 0 0)])) rfl rfl rfl ?_
      refine mS hTT 12 (.box 27 (tn 3 (Rat.divInt i0 k0))) rfl ?_
      refine mV hTT _ rfl ?_
      refine mNil ?_
      refine tN ?_
      refine cSeq ?_
      refine cSeq ?_
      refine cReg ?_
      refine mV hTT _ rfl ?_
      refine mV hTT (.d (.one (.v (.bool false)))) (evb (beq_eq_false_iff_ne.2 hk)) ?_
      refine mNil ?_
      refine tN ?_
      refine cF rfl ?_
      refine cSkip ?_
      refine tN ?_
      refine cSeq ?_
      refine cDrawK hTT 24 (by kernel_rfl) (by kernel_rfl) (by kernel_rfl) ?_
      refine .cons (OpS.V _ rfl) ?_
      refine .cons (OpS.V (.d (.one (.v (.bool true)))) rfl) ?_
      refine .cons (OpS.V _ rfl) ?_
      refine .cons (OpS.V _ rfl) ?_
      refine .cons (OpS.C0 (aROf (n := i0) h1 h2) rfl rfl rfl) ?_
      refine .cons (OpS.V _ rfl) ?_
      refine .cons (OpS.C0 (aROf (n := k0) h3 h4) rfl rfl rfl) ?_
      refine .cons (OpS.C0 (aRMake (isr 64 i0) (isr 64 k0) (M := 64) (by decide) (by decide)) rfl rfl rfl) ?_
      refine .cons (OpS.V (.d (.agg (tn 3 (Rat.divInt i0 k0)))) rfl) ?_
      refine .cons (OpS.C0 (aIs4 (IsQ.eq (isq 64 (mkR i0 k0)) (mkR_ne hk)) (istn 3 (Rat.divInt i0 k0)) (by decide) (by decide)) rfl rfl rfl) ?_
      refine .cons (OpS.V _ rfl) ?_
      refine .cons (OpS.V _ rfl) ?_
      refine .cons (OpS.V (.d (.agg ([.v (.bool s1), lr 8 (xs1.take 8)]))) rfl) ?_
      refine .cons (OpS.C0 (aRFrom (iszr 8 s1 (xs1.take 8)) (M := 24) (by decide) (by decide)) rfl rfl rfl) ?_
      refine .cons (OpS.C0 (aROf (n := 1) (by decide) (by decide)) rfl rfl rfl) ?_
      refine .cons (OpS.C0 (aRMake (isr 24 (zv s1 (val (xs1.take 8)))) (isr 64 1) (M := 64) (by decide) (by decide)) rfl rfl rfl) ?_
      refine .cons (OpS.V (.d (.agg ([.v (.bool s1), lr 8 (xs1.take 8)]))) rfl) ?_
      refine .cons (OpS.C0 (aTInt (iszr 8 s1 (xs1.take 8)) (M := 8) (by decide) (by decide)) rfl rfl rfl) ?_
      refine .cons (OpS.C0 (aIs4 (IsQ.eq (isq 64 (mkR (zv s1 (val (xs1.take 8))) 1)) (mkR_int _)) (istn 8 (((zv s1 (val (xs1.take 8))) : Int) : Rat)) (by decide) (by decide)) rfl rfl rfl) ?_
      refine .cons (OpS.V _ rfl) ?_
      refine .cons (OpS.V _ rfl) ?_
      refine .cons (OpS.C0 (aWakes4) rfl rfl rfl) ?_
      refine .cons (OpS.V _ rfl) ?_
      refine .cons (OpS.V _ rfl) ?_
      refine .nil ?_
      refine mNil ?_
      refine tN ?_
      refine cRet ?_
      exact rQ rfl (AV.le.rfl)
  · skip
    refine cReg ?_
    refine mV hTT (.d (.agg ([.v (.bool s1), lr 8 (xs1.take 8)]))) rfl ?_
    refine mV hTT (.d (.agg ([.v (.bool s2), lr 8 (xs2.take 8)]))) rfl ?_
    refine mC0 (aTMake (iszr 8 s1 (xs1.take 8)) (iszr 8 s2 (xs2.take 8)) hy (M := 9) (by decide) (by decide)) rfl rfl rfl ?_
    refine mV hTT _ rfl ?_
    refine mV hTT _ rfl ?_
    refine mV hTT _ rfl ?_
    refine mN hTT (.box 27 ([.v (.bool false), .v (.slice none 0 0), .v (.bool false), .v (.slice none 0 0)])) rfl rfl rfl ?_
    refine mS hTT 9 (.box 27 (tn 9 (Rat.divInt (zv s1 (val (xs1.take 8))) (zv s2 (val (xs2.take 8)))))) rfl ?_
    refine mV hTT _ rfl ?_
    refine mNil ?_
    refine tN ?_
    refine cSeq ?_
    refine cReg ?_
    refine mV hTT (.d (.agg ([.v (.bool s2), lr 8 (xs2.take 8)]))) rfl ?_
    refine mC0 (aRFrom (iszr 8 s2 (xs2.take 8)) (M := 24) (by decide) (by decide)) rfl rfl rfl ?_
    refine mN hTT (.box 34 ([.v (.slice none 0 0), .v (.bool false)])) rfl rfl rfl ?_
    refine mS hTT 11 (.box 34 (rn 24 (zv s2 (val (xs2.take 8))))) rfl ?_
    refine mNil ?_
    refine tN ?_
    refine cSeq ?_
    refine cSeq ?_
    refine cReg ?_
    refine mV hTT (.d (.agg (rn 24 (zv s2 (val (xs2.take 8)))))) rfl ?_
    refine mC0 (aRZero (isr 24 (zv s2 (val (xs2.take 8))))) rfl rfl rfl ?_
    refine mNil ?_
    refine tN ?_
    refine cView 27 (.d (.one (.v (.bool false)))) rfl (le_bool (decide_eq_false hy)) ?_
    refine cF rfl ?_
    refine cSeq ?_
    refine cDrawK hTT 11 (by kernel_rfl) (by kernel_rfl) (by kernel_rfl) ?_
    refine .cons (OpS.V _ rfl) ?_
    refine .cons (OpS.V (.d (.one (.v (.bool false)))) rfl) ?_
    refine .cons (OpS.V _ rfl) ?_
    refine .cons (OpS.V (.d (.agg ([.v (.bool s1), lr 8 (xs1.take 8)]))) rfl) ?_
    refine .cons (OpS.C0 (aRFrom (iszr 8 s1 (xs1.take 8)) (M := 24) (by decide) (by decide)) rfl rfl rfl) ?_
    refine .cons (OpS.V (.d (.agg (rn 24 (zv s2 (val (xs2.take 8)))))) rfl) ?_
    refine .cons (OpS.C0 (aRMake (isr 24 (zv s1 (val (xs1.take 8)))) (isr 24 (zv s2 (val (xs2.take 8)))) (M := 64) (by decide) (by decide)) rfl rfl rfl) ?_
    refine .cons (OpS.V (.d (.agg (tn 9 (Rat.divInt (zv s1 (val (xs1.take 8))) (zv s2 (val (xs2.take 8))))))) rfl) ?_
    refine .cons (OpS.C0 (aIs4 (IsQ.eq (isq 64 (mkR (zv s1 (val (xs1.take 8))) (zv s2 (val (xs2.take 8))))) (mkR_ne hy)) (istn 9 (Rat.divInt (zv s1 (val (xs1.take 8))) (zv s2 (val (xs2.take 8))))) (by decide) (by decide)) rfl rfl rfl) ?_
    refine .cons (OpS.V (.d (.one (.v (.bool false)))) rfl) ?_
    refine .cons (OpS.V _ rfl) ?_
    refine .nil ?_
    refine mNil ?_
    refine tN ?_
    refine cF rfl ?_
    refine cSkip ?_
    refine tN ?_
    refine cSeq ?_
    by_cases hk : k0 = 0
    · skip
      refine cReg ?_
      refine mV hTT _ rfl ?_
      refine mV hTT _ rfl ?_
      refine mC0 (aTOf0 (n := i0) (d := k0) h1 h2 h3 h4 hk) rfl rfl rfl ?_
      refine mV hTT _ rfl ?_
      refine mV hTT _ rfl ?_
      refine mV hTT _ rfl ?_
      refine mN hTT (.box 27 ([.v (.bool false), .v (.slice none 0 0), .v (.bool false), .v (.slice none 0 0)])) rfl rfl rfl ?_
      refine mS hTT 12 (.box 27 ([.v (.bool false), .v (.slice none 0 0), .v (.bool false), .v (.slice none 0 0)])) rfl ?_
      refine mV hTT _ rfl ?_
      refine mNil ?_
      refine tN ?_
      refine cSeq ?_
      refine cSeq ?_
      refine cReg ?_
      refine mV hTT _ rfl ?_
      refine mV hTT (.d (.one (.v (.bool true)))) (evb (by rw [hk]; rfl)) ?_
      refine mNil ?_
      refine tN ?_
      refine cT rfl ?_
      refine cSeq ?_
      refine cReg ?_
      refine mV hTT _ rfl ?_
      refine mV hTT (.d (.one (.v (.bool true)))) rfl ?_
      refine mV hTT _ rfl ?_
      refine mV hTT (.ptr 12 0) rfl ?_
      refine mV hTT (.d (.agg ([.v (.bool false), .v (.slice none 0 0)]))) rfl ?_
      refine mC0 (aZero isn_nil) rfl rfl rfl ?_
      refine mView 66 (.d (.one (.v (.bool true)))) rfl (le_bool (decide_eq_true rfl)) ?_
      refine mV hTT _ rfl ?_
      refine mV hTT _ rfl ?_
      refine mC0 (aWakes4) rfl rfl rfl ?_
      refine mV hTT _ rfl ?_
      refine mV hTT _ rfl ?_
      refine mNil ?_
      refine tN ?_
      refine cRet ?_
      refine tR ?_
      exact rQ rfl (AV.le.rfl)
    · skip
      refine cReg ?_
      refine mV hTT _ rfl ?_
      refine mV hTT _ rfl ?_
      refine mC0 (aTOf (n := i0) (d := k0) h1 h2 h3 h4 hk) rfl rfl rfl ?_
      refine mV hTT _ rfl ?_
      refine mV hTT _ rfl ?_
      refine mV hTT _ rfl ?_
      refine mN hTT (.box 27 ([.v (.bool false), .v (.slice none 0 0), .v (.bool false), .v (.slice none 0 0)])) rfl rfl rfl ?_
      refine mS hTT 12 (.box 27 (tn 3 (Rat.divInt i0 k0))) rfl ?_
      refine mV hTT _ rfl ?_
      refine mNil ?_
      refine tN ?_
      refine cSeq ?_
      refine cSeq ?_
      refine cReg ?_
      refine mV hTT _ rfl ?_
      refine mV hTT (.d (.one (.v (.bool false)))) (evb (beq_eq_false_iff_ne.2 hk)) ?_
      refine mNil ?_
      refine tN ?_
      refine cF rfl ?_
      refine cSkip ?_
      refine tN ?_
      refine cSeq ?_
      refine cDrawK hTT 24 (by kernel_rfl) (by kernel_rfl) (by kernel_rfl) ?_
      refine .cons (OpS.V _ rfl) ?_
      refine .cons (OpS.V (.d (.one (.v (.bool true)))) rfl) ?_
      refine .cons (OpS.V _ rfl) ?_
      refine .cons (OpS.V _ rfl) ?_
      refine .cons (OpS.C0 (aROf (n := i0) h1 h2) rfl rfl rfl) ?_
      refine .cons (OpS.V _ rfl) ?_
      refine .cons (OpS.C0 (aROf (n := k0) h3 h4) rfl rfl rfl) ?_
      refine .cons (OpS.C0 (aRMake (isr 64 i0) (isr 64 k0) (M := 64) (by decide) (by decide)) rfl rfl rfl) ?_
      refine .cons (OpS.V (.d (.agg (tn 3 (Rat.divInt i0 k0)))) rfl) ?_
      refine .cons (OpS.C0 (aIs4 (IsQ.eq (isq 64 (mkR i0 k0)) (mkR_ne hk)) (istn 3 (Rat.divInt i0 k0)) (by decide) (by decide)) rfl rfl rfl) ?_
      refine .cons (OpS.V _ rfl) ?_
      refine .cons (OpS.V _ rfl) ?_
      refine .cons (OpS.V (.d (.agg ([.v (.bool s1), lr 8 (xs1.take 8)]))) rfl) ?_
      refine .cons (OpS.C0 (aRFrom (iszr 8 s1 (xs1.take 8)) (M := 24) (by decide) (by decide)) rfl rfl rfl) ?_
      refine .cons (OpS.C0 (aROf (n := 1) (by decide) (by decide)) rfl rfl rfl) ?_
      refine .cons (OpS.C0 (aRMake (isr 24 (zv s1 (val (xs1.take 8)))) (isr 64 1) (M := 64) (by decide) (by decide)) rfl rfl rfl) ?_
      refine .cons (OpS.V (.d (.agg ([.v (.bool s1), lr 8 (xs1.take 8)]))) rfl) ?_
      refine .cons (OpS.C0 (aTInt (iszr 8 s1 (xs1.take 8)) (M := 8) (by decide) (by decide)) rfl rfl rfl) ?_
      refine .cons (OpS.C0 (aIs4 (IsQ.eq (isq 64 (mkR (zv s1 (val (xs1.take 8))) 1)) (mkR_int _)) (istn 8 (((zv s1 (val (xs1.take 8))) : Int) : Rat)) (by decide) (by decide)) rfl rfl rfl) ?_
      refine .cons (OpS.V _ rfl) ?_
      refine .cons (OpS.V _ rfl) ?_
      refine .cons (OpS.C0 (aWakes4) rfl rfl rfl) ?_
      refine .cons (OpS.V _ rfl) ?_
      refine .cons (OpS.V _ rfl) ?_
      refine .nil ?_
      refine mNil ?_
      refine tN ?_
      refine cRet ?_
      exact rQ rfl (AV.le.rfl)

theorem slash_or (b : ByteArray) : ∀ n, (∀ i, i < n → sb b i ≠ 47) ∨ ∃ k, k < n ∧ (∀ i, i < k → sb b i ≠ 47) ∧ sb b k = 47
  | 0 => Or.inl fun i hi => absurd hi (Nat.not_lt_zero _)
  | n + 1 => by
    rcases slash_or b n with h | ⟨k, hk, h1, h2⟩
    · by_cases hn : sb b n = 47
      · exact Or.inr ⟨n, Nat.lt_succ_self n, h, hn⟩
      · exact Or.inl fun i hi => by rcases Nat.eq_or_lt_of_le (Nat.le_of_lt_succ hi) with e | e; exact e ▸ hn; exact h i e
    · exact Or.inr ⟨k, by omega, h1, h2⟩
set_option maxRecDepth 100000 in
set_option maxHeartbeats 4000000 in
theorem aRPs0 {b : ByteArray} (hb : ¬ b.size ≤ 300) : ACall Try.prog 4 [.one (.v (.string b))] (.d (.one (.v (.bool true)))) := by
  refine acallN hTT 49 [.tmp 2] Try.func4 rfl rfl rfl rfl rfl ?_
  refine cSeq ?_
  refine cReg ?_
  refine mV hTT _ rfl ?_
  refine mNil ?_
  refine tN ?_
  refine cSeq ?_
  refine cSeq ?_
  refine cReg ?_
  refine mV hTT _ rfl ?_
  refine mX (.d (.one (.v (.int .i64 (ByteArray.size b : Int))))) (xLen (b := b) rfl rfl rfl rfl Try.underlying9 rfl) ?_
  refine mV hTT (.d (.one (.v (.bool true)))) (evb (decide_eq_true (by omega))) ?_
  refine mNil ?_
  refine tN ?_
  refine cT rfl ?_
  refine cSeq ?_
  refine cReg ?_
  refine mC0 (aWakes4) rfl rfl rfl ?_
  refine mV hTT _ rfl ?_
  refine mNil ?_
  refine tN ?_
  refine cRet ?_
  refine tR ?_
  exact rQ rfl (AV.le.rfl)

set_option maxRecDepth 100000 in
set_option maxHeartbeats 4000000 in
theorem aRPs1 {b : ByteArray} {k : Nat} (hb : b.size ≤ 300) (hk : k < b.size) (hk1 : ∀ i, i < k → sb b i ≠ 47) (hk2 : sb b k = 47) (hl : okT (ByteArray.extract b 0 k)) (hn : isneg (ByteArray.extract b (k + 1) (ByteArray.size b)) = false) (hr : okT (ByteArray.extract b (k + 1) (ByteArray.size b))) (hd : pvl (ByteArray.extract b (k + 1) (ByteArray.size b)) ≠ 0) : ACall Try.prog 4 [.one (.v (.string b))] (.d (.one (.v (.bool true)))) := by
  refine acallN hTT 49 [.tmp 2] Try.func4 rfl rfl rfl rfl rfl ?_
  refine cSeq ?_
  refine cReg ?_
  refine mV hTT _ rfl ?_
  refine mNil ?_
  refine tN ?_
  refine cSeq ?_
  refine cSeq ?_
  refine cReg ?_
  refine mV hTT _ rfl ?_
  refine mX (.d (.one (.v (.int .i64 (ByteArray.size b : Int))))) (xLen (b := b) rfl rfl rfl rfl Try.underlying9 rfl) ?_
  refine mV hTT (.d (.one (.v (.bool false)))) (evb (decide_eq_false (by omega))) ?_
  refine mNil ?_
  refine tN ?_
  refine cF rfl ?_
  refine cSkip ?_
  refine tN ?_
  refine cSeq ?_
  refine cReg ?_
  refine mV hTT _ rfl ?_
  refine mC0 (aTPFrac hk (by omega) hk1 hk2 hl hn hr hd) rfl rfl rfl ?_
  refine mV hTT _ rfl ?_
  refine mV hTT _ rfl ?_
  refine mV hTT _ rfl ?_
  refine mN hTT (.box 27 ([.v (.bool false), .v (.slice none 0 0), .v (.bool false), .v (.slice none 0 0)])) rfl rfl rfl ?_
  refine mS hTT 3 (.box 27 (tn 1201 (Rat.divInt (pvl (ByteArray.extract b 0 k)) (pvl (ByteArray.extract b (k + 1) (ByteArray.size b)))))) rfl ?_
  refine mV hTT _ rfl ?_
  refine mNil ?_
  refine tN ?_
  refine cSeq ?_
  refine cReg ?_
  refine mV hTT _ rfl ?_
  refine mC0 (aRPFrac hk (by omega) hk1 hk2 hl hn hr hd) rfl rfl rfl ?_
  refine mV hTT _ rfl ?_
  refine mV hTT _ rfl ?_
  refine mV hTT _ rfl ?_
  refine mN hTT (.box 40 ([.v (.slice none 0 0), .v (.bool false), .v (.slice none 0 0), .v (.bool false)])) rfl rfl rfl ?_
  refine mS hTT 5 (.box 40 (qn 401 (mkR (pvl (ByteArray.extract b 0 k)) (pvl (ByteArray.extract b (k + 1) (ByteArray.size b)))))) rfl ?_
  refine mV hTT _ rfl ?_
  refine mNil ?_
  refine tN ?_
  refine cSeq ?_
  refine cSeq ?_
  refine cReg ?_
  refine mV hTT _ rfl ?_
  refine mV hTT (.d (.one (.v (.bool false)))) rfl ?_
  refine mNil ?_
  refine tN ?_
  refine cF rfl ?_
  refine cSkip ?_
  refine tN ?_
  refine cSeq ?_
  refine cReg ?_
  refine mV hTT _ rfl ?_
  refine mV hTT (.d (.one (.v (.bool true)))) rfl ?_
  refine mV hTT _ rfl ?_
  refine mV hTT (.d (.agg (qn 401 (mkR (pvl (ByteArray.extract b 0 k)) (pvl (ByteArray.extract b (k + 1) (ByteArray.size b))))))) rfl ?_
  refine mV hTT (.d (.agg (tn 1201 (Rat.divInt (pvl (ByteArray.extract b 0 k)) (pvl (ByteArray.extract b (k + 1) (ByteArray.size b))))))) rfl ?_
  refine mC0 (aIs4 (IsQ.eq (isq 401 (mkR (pvl (ByteArray.extract b 0 k)) (pvl (ByteArray.extract b (k + 1) (ByteArray.size b))))) (mkR_ne hd)) (istn 1201 (Rat.divInt (pvl (ByteArray.extract b 0 k)) (pvl (ByteArray.extract b (k + 1) (ByteArray.size b))))) (by decide) (by decide)) rfl rfl rfl ?_
  refine mV hTT _ rfl ?_
  refine mV hTT _ rfl ?_
  refine mC0 (aWakes4) rfl rfl rfl ?_
  refine mV hTT _ rfl ?_
  refine mV hTT _ rfl ?_
  refine mNil ?_
  refine tN ?_
  refine cRet ?_
  exact rQ rfl (AV.le.rfl)

set_option maxRecDepth 100000 in
set_option maxHeartbeats 4000000 in
theorem aRPs2 {b : ByteArray} {k : Nat} (hb : b.size ≤ 300) (hk : k < b.size) (hk1 : ∀ i, i < k → sb b i ≠ 47) (hk2 : sb b k = 47) (hl : okT (ByteArray.extract b 0 k)) (hn : isneg (ByteArray.extract b (k + 1) (ByteArray.size b)) = false) (hr : okT (ByteArray.extract b (k + 1) (ByteArray.size b))) (hd : pvl (ByteArray.extract b (k + 1) (ByteArray.size b)) = 0) : ACall Try.prog 4 [.one (.v (.string b))] (.d (.one (.v (.bool true)))) := by
  refine acallN hTT 49 [.tmp 2] Try.func4 rfl rfl rfl rfl rfl ?_
  refine cSeq ?_
  refine cReg ?_
  refine mV hTT _ rfl ?_
  refine mNil ?_
  refine tN ?_
  refine cSeq ?_
  refine cSeq ?_
  refine cReg ?_
  refine mV hTT _ rfl ?_
  refine mX (.d (.one (.v (.int .i64 (ByteArray.size b : Int))))) (xLen (b := b) rfl rfl rfl rfl Try.underlying9 rfl) ?_
  refine mV hTT (.d (.one (.v (.bool false)))) (evb (decide_eq_false (by omega))) ?_
  refine mNil ?_
  refine tN ?_
  refine cF rfl ?_
  refine cSkip ?_
  refine tN ?_
  refine cSeq ?_
  refine cReg ?_
  refine mV hTT _ rfl ?_
  refine mC0 (aTPFrac0 hk (by omega) hk1 hk2 hl hn hr hd) rfl rfl rfl ?_
  refine mV hTT _ rfl ?_
  refine mV hTT _ rfl ?_
  refine mV hTT _ rfl ?_
  refine mN hTT (.box 27 ([.v (.bool false), .v (.slice none 0 0), .v (.bool false), .v (.slice none 0 0)])) rfl rfl rfl ?_
  refine mS hTT 3 (.box 27 ([.v (.bool false), .v (.slice none 0 0), .v (.bool false), .v (.slice none 0 0)])) rfl ?_
  refine mV hTT _ rfl ?_
  refine mNil ?_
  refine tN ?_
  refine cSeq ?_
  refine cReg ?_
  refine mV hTT _ rfl ?_
  refine mC0 (aRPFrac0 hk (by omega) hk1 hk2 hl hn hr hd) rfl rfl rfl ?_
  refine mV hTT _ rfl ?_
  refine mV hTT _ rfl ?_
  refine mV hTT _ rfl ?_
  refine mN hTT (.box 40 ([.v (.slice none 0 0), .v (.bool false), .v (.slice none 0 0), .v (.bool false)])) rfl rfl rfl ?_
  refine mS hTT 5 (.box 40 ([.v (.slice none 0 0), .v (.bool false), .v (.slice none 0 0), .v (.bool false)])) rfl ?_
  refine mV hTT _ rfl ?_
  refine mNil ?_
  refine tN ?_
  refine cSeq ?_
  refine cSeq ?_
  refine cReg ?_
  refine mV hTT _ rfl ?_
  refine mV hTT (.d (.one (.v (.bool true)))) rfl ?_
  refine mNil ?_
  refine tN ?_
  refine cT rfl ?_
  refine cSeq ?_
  refine cReg ?_
  refine mV hTT _ rfl ?_
  refine mV hTT _ rfl ?_
  refine mV hTT (.d (.one (.v (.bool true)))) rfl ?_
  refine mV hTT _ rfl ?_
  refine mV hTT (.ptr 3 0) rfl ?_
  refine mV hTT (.d (.agg ([.v (.bool false), .v (.slice none 0 0)]))) rfl ?_
  refine mC0 (aZero isn_nil) rfl rfl rfl ?_
  refine mView 29 (.d (.one (.v (.bool true)))) rfl (le_bool (decide_eq_true rfl)) ?_
  refine mV hTT _ rfl ?_
  refine mV hTT _ rfl ?_
  refine mV hTT (.ptr 3 2) rfl ?_
  refine mV hTT (.d (.agg ([.v (.bool false), .v (.slice none 0 0)]))) rfl ?_
  refine mC0 (aZero isn_nil) rfl rfl rfl ?_
  refine mView 34 (.d (.one (.v (.bool true)))) rfl (le_bool (decide_eq_true rfl)) ?_
  refine mV hTT _ rfl ?_
  refine mV hTT _ rfl ?_
  refine mC0 (aWakes4) rfl rfl rfl ?_
  refine mV hTT _ rfl ?_
  refine mV hTT _ rfl ?_
  refine mNil ?_
  refine tN ?_
  refine cRet ?_
  refine tR ?_
  exact rQ rfl (AV.le.rfl)

set_option maxRecDepth 100000 in
set_option maxHeartbeats 4000000 in
theorem aRPs3 {b : ByteArray} {k : Nat} (hb : b.size ≤ 300) (hk : k < b.size) (hk1 : ∀ i, i < k → sb b i ≠ 47) (hk2 : sb b k = 47) (hl : ¬ okT (ByteArray.extract b 0 k)) : ACall Try.prog 4 [.one (.v (.string b))] (.d (.one (.v (.bool true)))) := by
  refine acallN hTT 49 [.tmp 2] Try.func4 rfl rfl rfl rfl rfl ?_
  refine cSeq ?_
  refine cReg ?_
  refine mV hTT _ rfl ?_
  refine mNil ?_
  refine tN ?_
  refine cSeq ?_
  refine cSeq ?_
  refine cReg ?_
  refine mV hTT _ rfl ?_
  refine mX (.d (.one (.v (.int .i64 (ByteArray.size b : Int))))) (xLen (b := b) rfl rfl rfl rfl Try.underlying9 rfl) ?_
  refine mV hTT (.d (.one (.v (.bool false)))) (evb (decide_eq_false (by omega))) ?_
  refine mNil ?_
  refine tN ?_
  refine cF rfl ?_
  refine cSkip ?_
  refine tN ?_
  refine cSeq ?_
  refine cReg ?_
  refine mV hTT _ rfl ?_
  refine mC0 (aTPBadL hk (by omega) hk1 hk2 hl) rfl rfl rfl ?_
  refine mV hTT _ rfl ?_
  refine mV hTT _ rfl ?_
  refine mV hTT _ rfl ?_
  refine mN hTT (.box 27 ([.v (.bool false), .v (.slice none 0 0), .v (.bool false), .v (.slice none 0 0)])) rfl rfl rfl ?_
  refine mS hTT 3 (.box 27 ([.v (.bool false), .v (.slice none 0 0), .v (.bool false), .v (.slice none 0 0)])) rfl ?_
  refine mV hTT _ rfl ?_
  refine mNil ?_
  refine tN ?_
  refine cSeq ?_
  refine cReg ?_
  refine mV hTT _ rfl ?_
  refine mC0 (aRPBadL hk (by omega) hk1 hk2 hl) rfl rfl rfl ?_
  refine mV hTT _ rfl ?_
  refine mV hTT _ rfl ?_
  refine mV hTT _ rfl ?_
  refine mN hTT (.box 40 ([.v (.slice none 0 0), .v (.bool false), .v (.slice none 0 0), .v (.bool false)])) rfl rfl rfl ?_
  refine mS hTT 5 (.box 40 ([.v (.slice none 0 0), .v (.bool false), .v (.slice none 0 0), .v (.bool false)])) rfl ?_
  refine mV hTT _ rfl ?_
  refine mNil ?_
  refine tN ?_
  refine cSeq ?_
  refine cSeq ?_
  refine cReg ?_
  refine mV hTT _ rfl ?_
  refine mV hTT (.d (.one (.v (.bool true)))) rfl ?_
  refine mNil ?_
  refine tN ?_
  refine cT rfl ?_
  refine cSeq ?_
  refine cReg ?_
  refine mV hTT _ rfl ?_
  refine mV hTT _ rfl ?_
  refine mV hTT (.d (.one (.v (.bool true)))) rfl ?_
  refine mV hTT _ rfl ?_
  refine mV hTT (.ptr 3 0) rfl ?_
  refine mV hTT (.d (.agg ([.v (.bool false), .v (.slice none 0 0)]))) rfl ?_
  refine mC0 (aZero isn_nil) rfl rfl rfl ?_
  refine mView 29 (.d (.one (.v (.bool true)))) rfl (le_bool (decide_eq_true rfl)) ?_
  refine mV hTT _ rfl ?_
  refine mV hTT _ rfl ?_
  refine mV hTT (.ptr 3 2) rfl ?_
  refine mV hTT (.d (.agg ([.v (.bool false), .v (.slice none 0 0)]))) rfl ?_
  refine mC0 (aZero isn_nil) rfl rfl rfl ?_
  refine mView 34 (.d (.one (.v (.bool true)))) rfl (le_bool (decide_eq_true rfl)) ?_
  refine mV hTT _ rfl ?_
  refine mV hTT _ rfl ?_
  refine mC0 (aWakes4) rfl rfl rfl ?_
  refine mV hTT _ rfl ?_
  refine mV hTT _ rfl ?_
  refine mNil ?_
  refine tN ?_
  refine cRet ?_
  refine tR ?_
  exact rQ rfl (AV.le.rfl)

set_option maxRecDepth 100000 in
set_option maxHeartbeats 4000000 in
theorem aRPs4 {b : ByteArray} {k : Nat} (hb : b.size ≤ 300) (hk : k < b.size) (hk1 : ∀ i, i < k → sb b i ≠ 47) (hk2 : sb b k = 47) (hl : okT (ByteArray.extract b 0 k)) (hn : isneg (ByteArray.extract b (k + 1) (ByteArray.size b)) = true) (hr : okT (ByteArray.extract b (k + 1) (ByteArray.size b))) : ACall Try.prog 4 [.one (.v (.string b))] (.d (.one (.v (.bool true)))) := by
  refine acallN hTT 49 [.tmp 2] Try.func4 rfl rfl rfl rfl rfl ?_
  refine cSeq ?_
  refine cReg ?_
  refine mV hTT _ rfl ?_
  refine mNil ?_
  refine tN ?_
  refine cSeq ?_
  refine cSeq ?_
  refine cReg ?_
  refine mV hTT _ rfl ?_
  refine mX (.d (.one (.v (.int .i64 (ByteArray.size b : Int))))) (xLen (b := b) rfl rfl rfl rfl Try.underlying9 rfl) ?_
  refine mV hTT (.d (.one (.v (.bool false)))) (evb (decide_eq_false (by omega))) ?_
  refine mNil ?_
  refine tN ?_
  refine cF rfl ?_
  refine cSkip ?_
  refine tN ?_
  refine cSeq ?_
  refine cReg ?_
  refine mV hTT _ rfl ?_
  refine mC0 (aTPNeg hk (by omega) hk1 hk2 hl hn) rfl rfl rfl ?_
  refine mV hTT _ rfl ?_
  refine mV hTT _ rfl ?_
  refine mV hTT _ rfl ?_
  refine mN hTT (.box 27 ([.v (.bool false), .v (.slice none 0 0), .v (.bool false), .v (.slice none 0 0)])) rfl rfl rfl ?_
  refine mS hTT 3 (.box 27 ([.v (.bool false), .v (.slice none 0 0), .v (.bool false), .v (.slice none 0 0)])) rfl ?_
  refine mV hTT _ rfl ?_
  refine mNil ?_
  refine tN ?_
  refine cSeq ?_
  refine cReg ?_
  refine mV hTT _ rfl ?_
  refine mC0 (aRPNeg hk (by omega) hk1 hk2 hl hn hr) rfl rfl rfl ?_
  refine mV hTT _ rfl ?_
  refine mV hTT _ rfl ?_
  refine mV hTT _ rfl ?_
  refine mN hTT (.box 40 ([.v (.slice none 0 0), .v (.bool false), .v (.slice none 0 0), .v (.bool false)])) rfl rfl rfl ?_
  refine mS hTT 5 (.box 40 ([.v (.slice none 0 0), .v (.bool false), .v (.slice none 0 0), .v (.bool false)])) rfl ?_
  refine mV hTT _ rfl ?_
  refine mNil ?_
  refine tN ?_
  refine cSeq ?_
  refine cSeq ?_
  refine cReg ?_
  refine mV hTT _ rfl ?_
  refine mV hTT (.d (.one (.v (.bool true)))) rfl ?_
  refine mNil ?_
  refine tN ?_
  refine cT rfl ?_
  refine cSeq ?_
  refine cReg ?_
  refine mV hTT _ rfl ?_
  refine mV hTT _ rfl ?_
  refine mV hTT (.d (.one (.v (.bool true)))) rfl ?_
  refine mV hTT _ rfl ?_
  refine mV hTT (.ptr 3 0) rfl ?_
  refine mV hTT (.d (.agg ([.v (.bool false), .v (.slice none 0 0)]))) rfl ?_
  refine mC0 (aZero isn_nil) rfl rfl rfl ?_
  refine mView 29 (.d (.one (.v (.bool true)))) rfl (le_bool (decide_eq_true rfl)) ?_
  refine mV hTT _ rfl ?_
  refine mV hTT _ rfl ?_
  refine mV hTT (.ptr 3 2) rfl ?_
  refine mV hTT (.d (.agg ([.v (.bool false), .v (.slice none 0 0)]))) rfl ?_
  refine mC0 (aZero isn_nil) rfl rfl rfl ?_
  refine mView 34 (.d (.one (.v (.bool true)))) rfl (le_bool (decide_eq_true rfl)) ?_
  refine mV hTT _ rfl ?_
  refine mV hTT _ rfl ?_
  refine mC0 (aWakes4) rfl rfl rfl ?_
  refine mV hTT _ rfl ?_
  refine mV hTT _ rfl ?_
  refine mNil ?_
  refine tN ?_
  refine cRet ?_
  refine tR ?_
  exact rQ rfl (AV.le.rfl)

set_option maxRecDepth 100000 in
set_option maxHeartbeats 4000000 in
theorem aRPs5 {b : ByteArray} {k : Nat} (hb : b.size ≤ 300) (hk : k < b.size) (hk1 : ∀ i, i < k → sb b i ≠ 47) (hk2 : sb b k = 47) (hl : okT (ByteArray.extract b 0 k)) (hn : isneg (ByteArray.extract b (k + 1) (ByteArray.size b)) = true) (hr : ¬ okT (ByteArray.extract b (k + 1) (ByteArray.size b))) : ACall Try.prog 4 [.one (.v (.string b))] (.d (.one (.v (.bool true)))) := by
  refine acallN hTT 49 [.tmp 2] Try.func4 rfl rfl rfl rfl rfl ?_
  refine cSeq ?_
  refine cReg ?_
  refine mV hTT _ rfl ?_
  refine mNil ?_
  refine tN ?_
  refine cSeq ?_
  refine cSeq ?_
  refine cReg ?_
  refine mV hTT _ rfl ?_
  refine mX (.d (.one (.v (.int .i64 (ByteArray.size b : Int))))) (xLen (b := b) rfl rfl rfl rfl Try.underlying9 rfl) ?_
  refine mV hTT (.d (.one (.v (.bool false)))) (evb (decide_eq_false (by omega))) ?_
  refine mNil ?_
  refine tN ?_
  refine cF rfl ?_
  refine cSkip ?_
  refine tN ?_
  refine cSeq ?_
  refine cReg ?_
  refine mV hTT _ rfl ?_
  refine mC0 (aTPNeg hk (by omega) hk1 hk2 hl hn) rfl rfl rfl ?_
  refine mV hTT _ rfl ?_
  refine mV hTT _ rfl ?_
  refine mV hTT _ rfl ?_
  refine mN hTT (.box 27 ([.v (.bool false), .v (.slice none 0 0), .v (.bool false), .v (.slice none 0 0)])) rfl rfl rfl ?_
  refine mS hTT 3 (.box 27 ([.v (.bool false), .v (.slice none 0 0), .v (.bool false), .v (.slice none 0 0)])) rfl ?_
  refine mV hTT _ rfl ?_
  refine mNil ?_
  refine tN ?_
  refine cSeq ?_
  refine cReg ?_
  refine mV hTT _ rfl ?_
  refine mC0 (aRPBadR hk (by omega) hk1 hk2 hl hr) rfl rfl rfl ?_
  refine mV hTT _ rfl ?_
  refine mV hTT _ rfl ?_
  refine mV hTT _ rfl ?_
  refine mN hTT (.box 40 ([.v (.slice none 0 0), .v (.bool false), .v (.slice none 0 0), .v (.bool false)])) rfl rfl rfl ?_
  refine mS hTT 5 (.box 40 ([.v (.slice none 0 0), .v (.bool false), .v (.slice none 0 0), .v (.bool false)])) rfl ?_
  refine mV hTT _ rfl ?_
  refine mNil ?_
  refine tN ?_
  refine cSeq ?_
  refine cSeq ?_
  refine cReg ?_
  refine mV hTT _ rfl ?_
  refine mV hTT (.d (.one (.v (.bool true)))) rfl ?_
  refine mNil ?_
  refine tN ?_
  refine cT rfl ?_
  refine cSeq ?_
  refine cReg ?_
  refine mV hTT _ rfl ?_
  refine mV hTT _ rfl ?_
  refine mV hTT (.d (.one (.v (.bool true)))) rfl ?_
  refine mV hTT _ rfl ?_
  refine mV hTT (.ptr 3 0) rfl ?_
  refine mV hTT (.d (.agg ([.v (.bool false), .v (.slice none 0 0)]))) rfl ?_
  refine mC0 (aZero isn_nil) rfl rfl rfl ?_
  refine mView 29 (.d (.one (.v (.bool true)))) rfl (le_bool (decide_eq_true rfl)) ?_
  refine mV hTT _ rfl ?_
  refine mV hTT _ rfl ?_
  refine mV hTT (.ptr 3 2) rfl ?_
  refine mV hTT (.d (.agg ([.v (.bool false), .v (.slice none 0 0)]))) rfl ?_
  refine mC0 (aZero isn_nil) rfl rfl rfl ?_
  refine mView 34 (.d (.one (.v (.bool true)))) rfl (le_bool (decide_eq_true rfl)) ?_
  refine mV hTT _ rfl ?_
  refine mV hTT _ rfl ?_
  refine mC0 (aWakes4) rfl rfl rfl ?_
  refine mV hTT _ rfl ?_
  refine mV hTT _ rfl ?_
  refine mNil ?_
  refine tN ?_
  refine cRet ?_
  refine tR ?_
  exact rQ rfl (AV.le.rfl)

set_option maxRecDepth 100000 in
set_option maxHeartbeats 4000000 in
theorem aRPs6 {b : ByteArray} {k : Nat} (hb : b.size ≤ 300) (hk : k < b.size) (hk1 : ∀ i, i < k → sb b i ≠ 47) (hk2 : sb b k = 47) (hl : okT (ByteArray.extract b 0 k)) (hn : isneg (ByteArray.extract b (k + 1) (ByteArray.size b)) = false) (hr : ¬ okT (ByteArray.extract b (k + 1) (ByteArray.size b))) : ACall Try.prog 4 [.one (.v (.string b))] (.d (.one (.v (.bool true)))) := by
  refine acallN hTT 49 [.tmp 2] Try.func4 rfl rfl rfl rfl rfl ?_
  refine cSeq ?_
  refine cReg ?_
  refine mV hTT _ rfl ?_
  refine mNil ?_
  refine tN ?_
  refine cSeq ?_
  refine cSeq ?_
  refine cReg ?_
  refine mV hTT _ rfl ?_
  refine mX (.d (.one (.v (.int .i64 (ByteArray.size b : Int))))) (xLen (b := b) rfl rfl rfl rfl Try.underlying9 rfl) ?_
  refine mV hTT (.d (.one (.v (.bool false)))) (evb (decide_eq_false (by omega))) ?_
  refine mNil ?_
  refine tN ?_
  refine cF rfl ?_
  refine cSkip ?_
  refine tN ?_
  refine cSeq ?_
  refine cReg ?_
  refine mV hTT _ rfl ?_
  refine mC0 (aTPBadR hk (by omega) hk1 hk2 hl hn hr) rfl rfl rfl ?_
  refine mV hTT _ rfl ?_
  refine mV hTT _ rfl ?_
  refine mV hTT _ rfl ?_
  refine mN hTT (.box 27 ([.v (.bool false), .v (.slice none 0 0), .v (.bool false), .v (.slice none 0 0)])) rfl rfl rfl ?_
  refine mS hTT 3 (.box 27 ([.v (.bool false), .v (.slice none 0 0), .v (.bool false), .v (.slice none 0 0)])) rfl ?_
  refine mV hTT _ rfl ?_
  refine mNil ?_
  refine tN ?_
  refine cSeq ?_
  refine cReg ?_
  refine mV hTT _ rfl ?_
  refine mC0 (aRPBadR hk (by omega) hk1 hk2 hl hr) rfl rfl rfl ?_
  refine mV hTT _ rfl ?_
  refine mV hTT _ rfl ?_
  refine mV hTT _ rfl ?_
  refine mN hTT (.box 40 ([.v (.slice none 0 0), .v (.bool false), .v (.slice none 0 0), .v (.bool false)])) rfl rfl rfl ?_
  refine mS hTT 5 (.box 40 ([.v (.slice none 0 0), .v (.bool false), .v (.slice none 0 0), .v (.bool false)])) rfl ?_
  refine mV hTT _ rfl ?_
  refine mNil ?_
  refine tN ?_
  refine cSeq ?_
  refine cSeq ?_
  refine cReg ?_
  refine mV hTT _ rfl ?_
  refine mV hTT (.d (.one (.v (.bool true)))) rfl ?_
  refine mNil ?_
  refine tN ?_
  refine cT rfl ?_
  refine cSeq ?_
  refine cReg ?_
  refine mV hTT _ rfl ?_
  refine mV hTT _ rfl ?_
  refine mV hTT (.d (.one (.v (.bool true)))) rfl ?_
  refine mV hTT _ rfl ?_
  refine mV hTT (.ptr 3 0) rfl ?_
  refine mV hTT (.d (.agg ([.v (.bool false), .v (.slice none 0 0)]))) rfl ?_
  refine mC0 (aZero isn_nil) rfl rfl rfl ?_
  refine mView 29 (.d (.one (.v (.bool true)))) rfl (le_bool (decide_eq_true rfl)) ?_
  refine mV hTT _ rfl ?_
  refine mV hTT _ rfl ?_
  refine mV hTT (.ptr 3 2) rfl ?_
  refine mV hTT (.d (.agg ([.v (.bool false), .v (.slice none 0 0)]))) rfl ?_
  refine mC0 (aZero isn_nil) rfl rfl rfl ?_
  refine mView 34 (.d (.one (.v (.bool true)))) rfl (le_bool (decide_eq_true rfl)) ?_
  refine mV hTT _ rfl ?_
  refine mV hTT _ rfl ?_
  refine mC0 (aWakes4) rfl rfl rfl ?_
  refine mV hTT _ rfl ?_
  refine mV hTT _ rfl ?_
  refine mNil ?_
  refine tN ?_
  refine cRet ?_
  refine tR ?_
  exact rQ rfl (AV.le.rfl)

set_option maxRecDepth 100000 in
set_option maxHeartbeats 4000000 in
theorem aRPs7 {b : ByteArray} (hb : b.size ≤ 300) (hk1 : ∀ i, i < b.size → sb b i ≠ 47) (hl : okT b) : ACall Try.prog 4 [.one (.v (.string b))] (.d (.one (.v (.bool true)))) := by
  refine acallN hTT 49 [.tmp 2] Try.func4 rfl rfl rfl rfl rfl ?_
  refine cSeq ?_
  refine cReg ?_
  refine mV hTT _ rfl ?_
  refine mNil ?_
  refine tN ?_
  refine cSeq ?_
  refine cSeq ?_
  refine cReg ?_
  refine mV hTT _ rfl ?_
  refine mX (.d (.one (.v (.int .i64 (ByteArray.size b : Int))))) (xLen (b := b) rfl rfl rfl rfl Try.underlying9 rfl) ?_
  refine mV hTT (.d (.one (.v (.bool false)))) (evb (decide_eq_false (by omega))) ?_
  refine mNil ?_
  refine tN ?_
  refine cF rfl ?_
  refine cSkip ?_
  refine tN ?_
  refine cSeq ?_
  refine cReg ?_
  refine mV hTT _ rfl ?_
  refine mC0 (aTPInt (by omega) hk1 hl) rfl rfl rfl ?_
  refine mV hTT _ rfl ?_
  refine mV hTT _ rfl ?_
  refine mV hTT _ rfl ?_
  refine mN hTT (.box 27 ([.v (.bool false), .v (.slice none 0 0), .v (.bool false), .v (.slice none 0 0)])) rfl rfl rfl ?_
  refine mS hTT 3 (.box 27 (tn 1200 ((pvl b : Int) : Rat))) rfl ?_
  refine mV hTT _ rfl ?_
  refine mNil ?_
  refine tN ?_
  refine cSeq ?_
  refine cReg ?_
  refine mV hTT _ rfl ?_
  refine mC0 (aRPInt (by omega) hk1 hl) rfl rfl rfl ?_
  refine mV hTT _ rfl ?_
  refine mV hTT _ rfl ?_
  refine mV hTT _ rfl ?_
  refine mN hTT (.box 40 ([.v (.slice none 0 0), .v (.bool false), .v (.slice none 0 0), .v (.bool false)])) rfl rfl rfl ?_
  refine mS hTT 5 (.box 40 (qn 401 (mkR (pvl b) 1))) rfl ?_
  refine mV hTT _ rfl ?_
  refine mNil ?_
  refine tN ?_
  refine cSeq ?_
  refine cSeq ?_
  refine cReg ?_
  refine mV hTT _ rfl ?_
  refine mV hTT (.d (.one (.v (.bool false)))) rfl ?_
  refine mNil ?_
  refine tN ?_
  refine cF rfl ?_
  refine cSkip ?_
  refine tN ?_
  refine cSeq ?_
  refine cReg ?_
  refine mV hTT _ rfl ?_
  refine mV hTT (.d (.one (.v (.bool true)))) rfl ?_
  refine mV hTT _ rfl ?_
  refine mV hTT (.d (.agg (qn 401 (mkR (pvl b) 1)))) rfl ?_
  refine mV hTT (.d (.agg (tn 1200 ((pvl b : Int) : Rat)))) rfl ?_
  refine mC0 (aIs4 (IsQ.eq (isq 401 (mkR (pvl b) 1)) (mkR_int _)) (istn 1200 ((pvl b : Int) : Rat)) (by decide) (by decide)) rfl rfl rfl ?_
  refine mV hTT _ rfl ?_
  refine mV hTT _ rfl ?_
  refine mC0 (aWakes4) rfl rfl rfl ?_
  refine mV hTT _ rfl ?_
  refine mV hTT _ rfl ?_
  refine mNil ?_
  refine tN ?_
  refine cRet ?_
  exact rQ rfl (AV.le.rfl)

set_option maxRecDepth 100000 in
set_option maxHeartbeats 4000000 in
theorem aRPs8 {b : ByteArray} (hb : b.size ≤ 300) (hk1 : ∀ i, i < b.size → sb b i ≠ 47) (hl : ¬ okT b) : ACall Try.prog 4 [.one (.v (.string b))] (.d (.one (.v (.bool true)))) := by
  refine acallN hTT 49 [.tmp 2] Try.func4 rfl rfl rfl rfl rfl ?_
  refine cSeq ?_
  refine cReg ?_
  refine mV hTT _ rfl ?_
  refine mNil ?_
  refine tN ?_
  refine cSeq ?_
  refine cSeq ?_
  refine cReg ?_
  refine mV hTT _ rfl ?_
  refine mX (.d (.one (.v (.int .i64 (ByteArray.size b : Int))))) (xLen (b := b) rfl rfl rfl rfl Try.underlying9 rfl) ?_
  refine mV hTT (.d (.one (.v (.bool false)))) (evb (decide_eq_false (by omega))) ?_
  refine mNil ?_
  refine tN ?_
  refine cF rfl ?_
  refine cSkip ?_
  refine tN ?_
  refine cSeq ?_
  refine cReg ?_
  refine mV hTT _ rfl ?_
  refine mC0 (aTPBadI (by omega) hk1 hl) rfl rfl rfl ?_
  refine mV hTT _ rfl ?_
  refine mV hTT _ rfl ?_
  refine mV hTT _ rfl ?_
  refine mN hTT (.box 27 ([.v (.bool false), .v (.slice none 0 0), .v (.bool false), .v (.slice none 0 0)])) rfl rfl rfl ?_
  refine mS hTT 3 (.box 27 ([.v (.bool false), .v (.slice none 0 0), .v (.bool false), .v (.slice none 0 0)])) rfl ?_
  refine mV hTT _ rfl ?_
  refine mNil ?_
  refine tN ?_
  refine cSeq ?_
  refine cReg ?_
  refine mV hTT _ rfl ?_
  refine mC0 (aRPBadI (by omega) hk1 hl) rfl rfl rfl ?_
  refine mV hTT _ rfl ?_
  refine mV hTT _ rfl ?_
  refine mV hTT _ rfl ?_
  refine mN hTT (.box 40 ([.v (.slice none 0 0), .v (.bool false), .v (.slice none 0 0), .v (.bool false)])) rfl rfl rfl ?_
  refine mS hTT 5 (.box 40 ([.v (.slice none 0 0), .v (.bool false), .v (.slice none 0 0), .v (.bool false)])) rfl ?_
  refine mV hTT _ rfl ?_
  refine mNil ?_
  refine tN ?_
  refine cSeq ?_
  refine cSeq ?_
  refine cReg ?_
  refine mV hTT _ rfl ?_
  refine mV hTT (.d (.one (.v (.bool true)))) rfl ?_
  refine mNil ?_
  refine tN ?_
  refine cT rfl ?_
  refine cSeq ?_
  refine cReg ?_
  refine mV hTT _ rfl ?_
  refine mV hTT _ rfl ?_
  refine mV hTT (.d (.one (.v (.bool true)))) rfl ?_
  refine mV hTT _ rfl ?_
  refine mV hTT (.ptr 3 0) rfl ?_
  refine mV hTT (.d (.agg ([.v (.bool false), .v (.slice none 0 0)]))) rfl ?_
  refine mC0 (aZero isn_nil) rfl rfl rfl ?_
  refine mView 29 (.d (.one (.v (.bool true)))) rfl (le_bool (decide_eq_true rfl)) ?_
  refine mV hTT _ rfl ?_
  refine mV hTT _ rfl ?_
  refine mV hTT (.ptr 3 2) rfl ?_
  refine mV hTT (.d (.agg ([.v (.bool false), .v (.slice none 0 0)]))) rfl ?_
  refine mC0 (aZero isn_nil) rfl rfl rfl ?_
  refine mView 34 (.d (.one (.v (.bool true)))) rfl (le_bool (decide_eq_true rfl)) ?_
  refine mV hTT _ rfl ?_
  refine mV hTT _ rfl ?_
  refine mC0 (aWakes4) rfl rfl rfl ?_
  refine mV hTT _ rfl ?_
  refine mV hTT _ rfl ?_
  refine mNil ?_
  refine tN ?_
  refine cRet ?_
  refine tR ?_
  exact rQ rfl (AV.le.rfl)

theorem aRatioParses {b : ByteArray} : ACall Try.prog 4 [.one (.v (.string b))] (.d (.one (.v (.bool true)))) := by
  by_cases hb : b.size ≤ 300
  · rcases slash_or b b.size with h | ⟨k, hk, h1, h2⟩
    · by_cases hl : okT b
      · exact aRPs7 hb h hl
      · exact aRPs8 hb h hl
    · by_cases hl : okT (ByteArray.extract b 0 k)
      · cases hn : isneg (ByteArray.extract b (k + 1) (ByteArray.size b))
        · by_cases hr : okT (ByteArray.extract b (k + 1) (ByteArray.size b))
          · by_cases hd : pvl (ByteArray.extract b (k + 1) (ByteArray.size b)) = 0
            · exact aRPs2 hb hk h1 h2 hl hn hr hd
            · exact aRPs1 hb hk h1 h2 hl hn hr hd
          · exact aRPs6 hb hk h1 h2 hl hn hr
        · by_cases hr : okT (ByteArray.extract b (k + 1) (ByteArray.size b))
          · exact aRPs4 hb hk h1 h2 hl hn hr
          · exact aRPs5 hb hk h1 h2 hl hn hr
      · exact aRPs3 hb hk h1 h2 hl
  · exact aRPs0 hb
end Go.Proofs.Ytmfmeecnieblpaa

