/-
  THE LAWS of chapter 5, by the machine (1): Cut, wakes, PolyMoves.
-/
import Derived.Test.YtnnpjkalkfoolaaPb
set_option linter.unusedVariables false
set_option linter.unusedSimpArgs false
namespace Go.Proofs.Ytnnpjkalkfoolaa
open Go.RowKit

set_option maxRecDepth 100000 in
set_option maxHeartbeats 4000000 in
theorem aCut {K n m k M : Nat} {f : Nat → Bool × List Nat} (hM : max (3 * k) 64 ≤ M) (hm : m ≤ 1000) (hk : k ≤ 1000) (hK : K ≤ 9223372036854775807 := by decide) : ACall Try.prog 11 [.one (arow K n f), .one (.v (.int .i64 (m : Int))), .one (.v (.int .i64 (k : Int)))] (.tup [.one (arow k (min n m) (cutf k f)), .one (qrow M (dg (cfz (min n m) (cutf k f)) (min n m)) (rc (cfz (min n m) (cutf k f))))]) := by
  refine acallN hTT 15 [.tmp 6, .tmp 7] Try.func11 rfl rfl rfl rfl rfl ?_
  refine cSeq ?_
  refine cReg ?_
  refine mV hTT _ rfl ?_
  refine mV hTT _ rfl ?_
  refine mNil ?_
  refine tN ?_
  refine cSeq ?_
  refine cReg ?_
  refine mV hTT _ rfl ?_
  refine mV hTT _ rfl ?_
  refine mV hTT _ rfl ?_
  refine mC0 (aKPoly (K := K) (n := n) (m := m) (k := k) (f := f) (by omega) (by omega) (by omega)) rfl rfl rfl ?_
  refine mV hTT _ rfl ?_
  refine mNil ?_
  refine tN ?_
  refine cSeq ?_
  refine cReg ?_
  refine mV hTT _ rfl ?_
  refine mV hTT _ rfl ?_
  refine mC0 (aQFrom (⟨⟨(cutf k f), fun _ _ _ h => h, (fun i hi => (if_pos hi).symm)⟩, (fun i hi => if_neg (by omega))⟩ : IsP (arow k (min n m) (cutf k f)) k (min n m) (cfz (min n m) (cutf k f))) (M := (max (3 * k) 64)) (by omega) (by omega) (by omega)) rfl rfl rfl ?_
  refine mV hTT _ rfl ?_
  refine mV hTT _ rfl ?_
  refine mNil ?_
  refine tN ?_
  refine cRet ?_
  exact rQ rfl (le_tup (dl DV.same (dl (dle (le_qrow (by omega) (dg_cast _) (fun _ _ => rfl))) dl0)))

theorem wakes_n : dg (mvZ (lst [0, 0, 1]) 1 2 (dg (lst [0, 0, 1]) 3) (dg (lst [0, 0, 1]) 3)) (dg (lst [0, 0, 1]) 3 + 1) = 3 := by decide
theorem wakes_c : ∀ i, i < 3 → lst [1, 4, 4] i = mvZ (lst [0, 0, 1]) 1 2 (dg (lst [0, 0, 1]) 3) (dg (lst [0, 0, 1]) 3) i := by decide
theorem wakes_q : dg (rc (lst [1, 4, 4])) 3 = 3 := (dg_cast (c := lst [1, 4, 4]) 3).trans (by decide)
set_option maxRecDepth 100000 in
set_option maxHeartbeats 4000000 in
theorem aWakes : ACall Try.prog 16 [] (.d (.one (.v (.bool true)))) := by
  refine acallN hTT 19 [.tmp 0] Try.func16 rfl rfl rfl rfl rfl ?_
  refine cSeq ?_
  refine cReg ?_
  refine mV hTT _ rfl ?_
  refine mNil ?_
  refine tN ?_
  refine cSeq ?_
  refine cReg ?_
  refine mB hTT (.d (.one (.row 1 3 (fun i' j' => (([.v (.int .i64 0), .v (.int .i64 0), .v (.int .i64 1)])[i' * 1 + j']?).getD (.v undef))))) rfl ?_
  refine mC0 (aPOf (isi_lit (l := [0, 0, 1]) (n := 3) rfl (fun i hi => match i, hi with | 0, _ => rfl | 1, _ => rfl | 2, _ => rfl)) (by decide) (by omega)) rfl rfl rfl ?_
  refine mC0 (aOf (n := 1) (by decide) (by decide)) rfl rfl rfl ?_
  refine mC0 (aOf (n := 2) (by decide) (by decide)) rfl rfl rfl ?_
  refine mC0 (aPMove (isp (K := 2) (c := (lst [0, 0, 1])) (dg_z lst_z)) (isz 2 1) (isz 2 2) (D := 3) (T := 6010) (M := 24040) (by decide) (dg_le _ _)) rfl rfl rfl ?_
  refine mV hTT _ rfl ?_
  refine mV hTT _ rfl ?_
  refine mV hTT _ rfl ?_
  refine mV hTT _ rfl ?_
  refine mV hTT _ rfl ?_
  refine mNil ?_
  refine tN ?_
  refine cSeq ?_
  refine cReg ?_
  refine mV hTT _ rfl ?_
  refine mV hTT (.d (.one (.v (.bool true)))) rfl ?_
  refine mV hTT _ rfl ?_
  refine mB hTT (.d (.one (.row 1 3 (fun i' j' => (([.v (.int .i64 1), .v (.int .i64 4), .v (.int .i64 4)])[i' * 1 + j']?).getD (.v undef))))) rfl ?_
  refine mC0 (aQOf (isi_lit (l := [1, 4, 4]) (n := 3) rfl (fun i hi => match i, hi with | 0, _ => rfl | 1, _ => rfl | 2, _ => rfl)) (by decide) (by omega)) rfl rfl rfl ?_
  refine mV hTT _ rfl ?_
  refine mC0 (aIs (K := 64) (L := 24040) (n := (dg (rc (lst [1, 4, 4])) 3)) (m := (dg (mvZ (lst [0, 0, 1]) 1 2 (dg (lst [0, 0, 1]) (dg (lst [0, 0, 1]) 3)) (dg (lst [0, 0, 1]) (dg (lst [0, 0, 1]) 3))) (dg (lst [0, 0, 1]) (dg (lst [0, 0, 1]) 3) + 1))) (q := (rc (lst [1, 4, 4]))) (c := (mvZ (lst [0, 0, 1]) 1 2 (dg (lst [0, 0, 1]) (dg (lst [0, 0, 1]) 3)) (dg (lst [0, 0, 1]) (dg (lst [0, 0, 1]) 3)))) (fun _ _ _ h => h) (fun _ _ _ h => h) (wakes_q.trans wakes_n.symm) (fun i hi => congrArg (fun z : Int => (z : Rat)) (wakes_c i (Nat.lt_of_lt_of_le hi (by decide)))) (by decide)) rfl rfl rfl ?_
  refine mV hTT _ rfl ?_
  refine mV hTT _ rfl ?_
  refine mNil ?_
  refine tN ?_
  refine cRet ?_
  exact rQ rfl (AV.le.rfl)

set_option maxRecDepth 100000 in
set_option maxHeartbeats 4000000 in
theorem aPolyMoves {K n K1 K2 : Nat} {f : Nat → Bool × List Nat} {s1 s2 : Bool} {xs1 xs2 : List Nat} (hK : K ≤ 9223372036854775807) (hK1 : K1 ≤ 9223372036854775807) (hK2 : K2 ≤ 9223372036854775807) : ACall Try.prog 3 [.one (arow K n f), .agg [.v (.bool s1), lr K1 xs1], .agg [.v (.bool s2), lr K2 xs2]] (.d (.one (.v (.bool true)))) := by
  refine acallN hTT 108 [.tmp 6] Try.func3 rfl rfl rfl rfl rfl ?_
  refine cSeq ?_
  refine cReg ?_
  refine mN hTT (.box 26 ([.v (.bool s1), lr K1 xs1])) rfl rfl rfl ?_
  refine mN hTT (.box 26 ([.v (.bool s2), lr K2 xs2])) rfl rfl rfl ?_
  refine mV hTT _ rfl ?_
  refine mNil ?_
  refine tN ?_
  refine cSeq ?_
  refine cReg ?_
  refine mV hTT _ rfl ?_
  refine mC0 (aCut (K := K) (n := n) (m := 6) (k := 3) (f := f) (M := 64) (by decide) (by decide) (by decide) (by omega)) rfl rfl rfl ?_
  refine mV hTT _ rfl ?_
  refine mV hTT _ rfl ?_
  refine mV hTT _ rfl ?_
  refine mV hTT _ rfl ?_
  refine mV hTT _ rfl ?_
  refine mNil ?_
  refine tN ?_
  refine cSeq ?_
  refine cDrawK hTT 4 (by kernel_rfl) (by kernel_rfl) ?_
  refine .cons (OpS.V (.d (.agg ([.v (.bool s1), lr K1 xs1]))) rfl) ?_
  refine .cons (OpS.C0 (aKInt (K := K1) (k := 2) (s := s1) (xs := xs1) (by omega) (by omega)) rfl rfl rfl) ?_
  refine .cons (OpS.V (.d (.agg ([.v (.bool s2), lr K2 xs2]))) rfl) ?_
  refine .cons (OpS.C0 (aKInt (K := K2) (k := 2) (s := s2) (xs := xs2) (by omega) (by omega)) rfl rfl rfl) ?_
  refine .nil ?_
  refine mS hTT 4 (.box 26 ([.v (.bool s1), lr 2 (xs1.take 2)])) rfl ?_
  refine mS hTT 5 (.box 26 ([.v (.bool s2), lr 2 (xs2.take 2)])) rfl ?_
  refine mNil ?_
  refine tN ?_
  refine cSeq ?_
  have hnx := dg_le (cfz (min n 6) (cutf 3 f)) (min n 6)
  by_cases hy : (zv s2 (val (xs2.take 2))) = 0
  · skip
    refine cReg ?_
    refine mV hTT _ rfl ?_
    refine mV hTT (.d (.agg ([.v (.bool s1), lr 2 (xs1.take 2)]))) rfl ?_
    refine mV hTT (.d (.agg ([.v (.bool s2), lr 2 (xs2.take 2)]))) rfl ?_
    refine mC0 (aPMove0 (⟨⟨(cutf 3 f), fun _ _ _ h => h, (fun i hi => (if_pos hi).symm)⟩, cfz_z⟩ : IsP (arow 3 (min n 6) (cutf 3 f)) 3 (min n 6) (cfz (min n 6) (cutf 3 f))) (iszr 2 s1 (xs1.take 2)) (iszr 2 s2 (xs2.take 2)) hy (by decide)) rfl rfl rfl ?_
    refine mV hTT _ rfl ?_
    refine mV hTT _ rfl ?_
    refine mV hTT _ rfl ?_
    refine mV hTT _ rfl ?_
    refine mV hTT _ rfl ?_
    refine mNil ?_
    refine tN ?_
    refine cSeq ?_
    refine cDrawK hTT 6 (by kernel_rfl) (by kernel_rfl) ?_
    refine .cons (OpS.V (.d (.agg ([.v (.bool s1), lr 2 (xs1.take 2)]))) rfl) ?_
    refine .cons (OpS.C0 (aRFrom (iszr 2 s1 (xs1.take 2)) (M := 6) (by decide) (by decide)) rfl rfl rfl) ?_
    refine .cons (OpS.V (.d (.agg ([.v (.bool s2), lr 2 (xs2.take 2)]))) rfl) ?_
    refine .cons (OpS.C0 (aRFrom (iszr 2 s2 (xs2.take 2)) (M := 6) (by decide) (by decide)) rfl rfl rfl) ?_
    refine .cons (OpS.N (.box 38 ([.v (.slice none 0 0), .v (.bool false)])) rfl 10 rfl rfl) ?_
    refine .cons (OpS.N (.box 38 ([.v (.slice none 0 0), .v (.bool false)])) rfl 11 rfl rfl) ?_
    refine .nil ?_
    refine mS hTT 10 (.box 38 (rn 6 (zv s1 (val (xs1.take 2))))) rfl ?_
    refine mS hTT 11 (.box 38 (rn 6 (zv s2 (val (xs2.take 2))))) rfl ?_
    refine mNil ?_
    refine tN ?_
    refine cSeq ?_
    refine cSeq ?_
    refine cReg ?_
    refine mV hTT (.d (.agg (rn 6 (zv s2 (val (xs2.take 2)))))) rfl ?_
    refine mC0 (aRZero (isr 6 (zv s2 (val (xs2.take 2))))) rfl rfl rfl ?_
    refine mNil ?_
    refine tN ?_
    refine cView 37 (.d (.one (.v (.bool true)))) rfl (le_bool (decide_eq_true hy)) ?_
    refine cT rfl ?_
    refine cSeq ?_
    refine cReg ?_
    refine mV hTT _ rfl ?_
    refine mV hTT (.d (.one (.v (.bool true)))) rfl ?_
    refine mV hTT _ rfl ?_
    refine mV hTT _ rfl ?_
    refine mV hTT (.d (.one (.v (.int .i64 0)))) rfl ?_
    refine mV hTT (.d (.one (.v (.bool true)))) rfl ?_
    refine mV hTT _ rfl ?_
    refine mV hTT _ rfl ?_
    refine mC0 (aWakes) rfl rfl rfl ?_
    refine mV hTT _ rfl ?_
    refine mV hTT _ rfl ?_
    refine mNil ?_
    refine tN ?_
    refine cRet ?_
    refine tR ?_
    exact rQ rfl (AV.le.rfl)
  · skip
    refine cReg ?_
    refine mV hTT _ rfl ?_
    refine mV hTT (.d (.agg ([.v (.bool s1), lr 2 (xs1.take 2)]))) rfl ?_
    refine mV hTT (.d (.agg ([.v (.bool s2), lr 2 (xs2.take 2)]))) rfl ?_
    refine mC0 (aPMove (⟨⟨(cutf 3 f), fun _ _ _ h => h, (fun i hi => (if_pos hi).symm)⟩, cfz_z⟩ : IsP (arow 3 (min n 6) (cutf 3 f)) 3 (min n 6) (cfz (min n 6) (cutf 3 f))) (iszr 2 s1 (xs1.take 2)) (iszr 2 s2 (xs2.take 2)) (D := 6) (T := 9020) (M := 63140) hy (by omega)) rfl rfl rfl ?_
    refine mV hTT _ rfl ?_
    refine mV hTT _ rfl ?_
    refine mV hTT _ rfl ?_
    refine mV hTT _ rfl ?_
    refine mV hTT _ rfl ?_
    refine mNil ?_
    refine tN ?_
    refine cSeq ?_
    refine cDrawK hTT 6 (by kernel_rfl) (by kernel_rfl) ?_
    refine .cons (OpS.V (.d (.agg ([.v (.bool s1), lr 2 (xs1.take 2)]))) rfl) ?_
    refine .cons (OpS.C0 (aRFrom (iszr 2 s1 (xs1.take 2)) (M := 6) (by decide) (by decide)) rfl rfl rfl) ?_
    refine .cons (OpS.V (.d (.agg ([.v (.bool s2), lr 2 (xs2.take 2)]))) rfl) ?_
    refine .cons (OpS.C0 (aRFrom (iszr 2 s2 (xs2.take 2)) (M := 6) (by decide) (by decide)) rfl rfl rfl) ?_
    refine .cons (OpS.N (.box 38 ([.v (.slice none 0 0), .v (.bool false)])) rfl 10 rfl rfl) ?_
    refine .cons (OpS.N (.box 38 ([.v (.slice none 0 0), .v (.bool false)])) rfl 11 rfl rfl) ?_
    refine .nil ?_
    refine mS hTT 10 (.box 38 (rn 6 (zv s1 (val (xs1.take 2))))) rfl ?_
    refine mS hTT 11 (.box 38 (rn 6 (zv s2 (val (xs2.take 2))))) rfl ?_
    refine mNil ?_
    refine tN ?_
    refine cSeq ?_
    refine cSeq ?_
    refine cReg ?_
    refine mV hTT (.d (.agg (rn 6 (zv s2 (val (xs2.take 2)))))) rfl ?_
    refine mC0 (aRZero (isr 6 (zv s2 (val (xs2.take 2))))) rfl rfl rfl ?_
    refine mNil ?_
    refine tN ?_
    refine cView 37 (.d (.one (.v (.bool false)))) rfl (le_bool (decide_eq_false hy)) ?_
    refine cF rfl ?_
    refine cSkip ?_
    refine tN ?_
    refine cSeq ?_
    refine cReg ?_
    refine mV hTT _ rfl ?_
    refine mNil ?_
    refine tN ?_
    refine cSeq ?_
    refine cReg ?_
    refine mV hTT (.d (.agg (rn 6 (zv s1 (val (xs1.take 2)))))) rfl ?_
    refine mV hTT (.d (.agg (rn 6 (zv s2 (val (xs2.take 2)))))) rfl ?_
    refine mC0 (aRMake (isr 6 (zv s1 (val (xs1.take 2)))) (isr 6 (zv s2 (val (xs2.take 2)))) (M := 64) (by decide) (by decide)) rfl rfl rfl ?_
    refine mC0 (aROfI (n := 1) (by decide) (by decide)) rfl rfl rfl ?_
    refine mB hTT (.d (.one (.row 4 2 (fun i' j' => ((qn 64 (mkR (zv s1 (val (xs1.take 2))) (zv s2 (val (xs2.take 2)))) ++ qn 64 ((1 : Int) : Rat))[i' * 4 + j']?).getD (.v undef))))) rfl ?_
    refine mV hTT _ rfl ?_
    refine mNil ?_
    refine tN ?_
    refine cSeq ?_
    refine cSeq ?_
    refine cReg ?_
    refine mV hTT _ rfl ?_
    refine mV hTT (.d (.one (.v (.int .i64 ((dg (cfz (min n 6) (cutf 3 f)) (min n 6) : Nat) : Int))))) rfl ?_
    refine mV hTT (.d (.one (.v (.int .i64 (((dg (cfz (min n 6) (cutf 3 f)) (min n 6)) : Int) - 1))))) (evi (wr64 (by omega) (by omega))) ?_
    refine mV hTT _ rfl ?_
    refine mNil ?_
    refine tN ?_
    refine cBlock ?_
    refine cLoop (ι := Nat) (fun (s : Nat) => ⟨108, [(7, .d (.one (.row 4 (dg (cfz (min n 6) (cutf 3 f)) (min n 6)) (qel 64 (rc (cfz (min n 6) (cutf 3 f))))))), (8, .d (.one (.row 2 (dg (mvZ (cfz (min n 6) (cutf 3 f)) (zv s1 (val (xs1.take 2))) (zv s2 (val (xs2.take 2))) (dg (cfz (min n 6) (cutf 3 f)) (min n 6)) (dg (cfz (min n 6) (cutf 3 f)) (min n 6))) (dg (cfz (min n 6) (cutf 3 f)) (min n 6) + 1)) (zel 63140 (mvZ (cfz (min n 6) (cutf 3 f)) (zv s1 (val (xs1.take 2))) (zv s2 (val (xs2.take 2))) (dg (cfz (min n 6) (cutf 3 f)) (min n 6)) (dg (cfz (min n 6) (cutf 3 f)) (min n 6))))))), (9, .d (.one (.v (.int .i64 0)))), (11, .ptr 11 0), (13, .d (.one (.row 4 2 (fun i' j' => ((qn 64 (mkR (zv s1 (val (xs1.take 2))) (zv s2 (val (xs2.take 2)))) ++ qn 64 ((1 : Int) : Rat))[i' * 4 + j']?).getD (.v undef))))), (12, .d (.one (.row 4 (dg (hvQ (rc (cfz (min n 6) (cutf 3 f))) (mkR (zv s1 (val (xs1.take 2))) (zv s2 (val (xs2.take 2)))) (dg (cfz (min n 6) (cutf 3 f)) (min n 6)) s) (s + 1)) (qel (KW s) (hvQ (rc (cfz (min n 6) (cutf 3 f))) (mkR (zv s1 (val (xs1.take 2))) (zv s2 (val (xs2.take 2)))) (dg (cfz (min n 6) (cutf 3 f)) (min n 6)) s))))), (14, .d (.one (.v (.int .i64 (((dg (cfz (min n 6) (cutf 3 f)) (min n 6)) : Int) - 1 - (s : Int))))))], [(11, .box 38 (rn 6 (zv s2 (val (xs2.take 2)))))]⟩) (fun (s : Nat) => s ≤ (dg (cfz (min n 6) (cutf 3 f)) (min n 6))) (fun (s : Nat) => (dg (cfz (min n 6) (cutf 3 f)) (min n 6)) - s) 0 (Nat.zero_le _) (wk (sl := [(7, .d (.one (.row 4 (dg (cfz (min n 6) (cutf 3 f)) (min n 6)) (qel 64 (rc (cfz (min n 6) (cutf 3 f))))))), (8, .d (.one (.row 2 (dg (mvZ (cfz (min n 6) (cutf 3 f)) (zv s1 (val (xs1.take 2))) (zv s2 (val (xs2.take 2))) (dg (cfz (min n 6) (cutf 3 f)) (min n 6)) (dg (cfz (min n 6) (cutf 3 f)) (min n 6))) (dg (cfz (min n 6) (cutf 3 f)) (min n 6) + 1)) (zel 63140 (mvZ (cfz (min n 6) (cutf 3 f)) (zv s1 (val (xs1.take 2))) (zv s2 (val (xs2.take 2))) (dg (cfz (min n 6) (cutf 3 f)) (min n 6)) (dg (cfz (min n 6) (cutf 3 f)) (min n 6))))))), (9, .d (.one (.v (.int .i64 0)))), (11, .ptr 11 0), (13, .d (.one (.row 4 2 (fun i' j' => ((qn 64 (mkR (zv s1 (val (xs1.take 2))) (zv s2 (val (xs2.take 2)))) ++ qn 64 ((1 : Int) : Rat))[i' * 4 + j']?).getD (.v undef))))), (12, .d (.one (.row 4 (dg (hvQ (rc (cfz (min n 6) (cutf 3 f))) (mkR (zv s1 (val (xs1.take 2))) (zv s2 (val (xs2.take 2)))) (dg (cfz (min n 6) (cutf 3 f)) (min n 6)) 0) (0 + 1)) (qel (KW 0) (hvQ (rc (cfz (min n 6) (cutf 3 f))) (mkR (zv s1 (val (xs1.take 2))) (zv s2 (val (xs2.take 2)))) (dg (cfz (min n 6) (cutf 3 f)) (min n 6)) 0))))), (14, .d (.one (.v (.int .i64 (((dg (cfz (min n 6) (cutf 3 f)) (min n 6)) : Int) - 1 - ((0 : Nat) : Int))))))]) (hp := [(11, .box 38 (rn 6 (zv s2 (val (xs2.take 2)))))]) rfl ⟨hs rfl, hs rfl, hs rfl, hs rfl, hs rfl, hs' rfl (nil_qrow' (dg_zero (fun _ => rfl) _)), hs' rfl (le_int (by omega)), trivial⟩ ⟨ho rfl, trivial⟩ rfl) ?_
    rintro s hI
    have hi : s ≤ (dg (cfz (min n 6) (cutf 3 f)) (min n 6)) := hI
    show AW Try.prog _ _ ⟨108, [(7, .d (.one (.row 4 (dg (cfz (min n 6) (cutf 3 f)) (min n 6)) (qel 64 (rc (cfz (min n 6) (cutf 3 f))))))), (8, .d (.one (.row 2 (dg (mvZ (cfz (min n 6) (cutf 3 f)) (zv s1 (val (xs1.take 2))) (zv s2 (val (xs2.take 2))) (dg (cfz (min n 6) (cutf 3 f)) (min n 6)) (dg (cfz (min n 6) (cutf 3 f)) (min n 6))) (dg (cfz (min n 6) (cutf 3 f)) (min n 6) + 1)) (zel 63140 (mvZ (cfz (min n 6) (cutf 3 f)) (zv s1 (val (xs1.take 2))) (zv s2 (val (xs2.take 2))) (dg (cfz (min n 6) (cutf 3 f)) (min n 6)) (dg (cfz (min n 6) (cutf 3 f)) (min n 6))))))), (9, .d (.one (.v (.int .i64 0)))), (11, .ptr 11 0), (13, .d (.one (.row 4 2 (fun i' j' => ((qn 64 (mkR (zv s1 (val (xs1.take 2))) (zv s2 (val (xs2.take 2)))) ++ qn 64 ((1 : Int) : Rat))[i' * 4 + j']?).getD (.v undef))))), (12, .d (.one (.row 4 (dg (hvQ (rc (cfz (min n 6) (cutf 3 f))) (mkR (zv s1 (val (xs1.take 2))) (zv s2 (val (xs2.take 2)))) (dg (cfz (min n 6) (cutf 3 f)) (min n 6)) s) (s + 1)) (qel (KW s) (hvQ (rc (cfz (min n 6) (cutf 3 f))) (mkR (zv s1 (val (xs1.take 2))) (zv s2 (val (xs2.take 2)))) (dg (cfz (min n 6) (cutf 3 f)) (min n 6)) s))))), (14, .d (.one (.v (.int .i64 (((dg (cfz (min n 6) (cutf 3 f)) (min n 6)) : Int) - 1 - (s : Int))))))], [(11, .box 38 (rn 6 (zv s2 (val (xs2.take 2)))))]⟩
    refine cSeq ?_
    refine cSeq ?_
    refine cReg ?_
    refine mV hTT _ rfl ?_
    refine mV hTT (.d (.one (.v (.bool (decide ((((dg (cfz (min n 6) (cutf 3 f)) (min n 6)) : Int) - 1 - (s : Int)) ≥ 0)))))) rfl ?_
    refine mNil ?_
    refine tN ?_
    refine cCond rfl (fun hc1 => ?_) (fun hc1 => ?_)
    · skip
      refine cSkip ?_
      refine tN ?_
      refine cSeq ?_
      refine cBlock ?_
      refine cSeq ?_
      have hsd : s < (dg (cfz (min n 6) (cutf 3 f)) (min n 6)) := by have h0 := of_decide_eq_true hc1; omega
      have hKW := KW_le (s + 1) (by omega)
      obtain ⟨MM, hMM⟩ : ∃ MM, MM = (s + 1 + 1) * (KW s + 64 + 66) := ⟨_, rfl⟩
      have hKs : KW (s + 1) = MM + 70 := by rw [hMM]; rfl
      have hd1 := dg_le (hvQ (rc (cfz (min n 6) (cutf 3 f))) (mkR (zv s1 (val (xs1.take 2))) (zv s2 (val (xs2.take 2)))) (dg (cfz (min n 6) (cutf 3 f)) (min n 6)) s) (s + 1)
      have hd2 := dg_le (conv (hvQ (rc (cfz (min n 6) (cutf 3 f))) (mkR (zv s1 (val (xs1.take 2))) (zv s2 (val (xs2.take 2)))) (dg (cfz (min n 6) (cutf 3 f)) (min n 6)) s) (linQ (mkR (zv s1 (val (xs1.take 2))) (zv s2 (val (xs2.take 2)))) (((1 : Int) : Int) : Rat))) (dg (hvQ (rc (cfz (min n 6) (cutf 3 f))) (mkR (zv s1 (val (xs1.take 2))) (zv s2 (val (xs2.take 2)))) (dg (cfz (min n 6) (cutf 3 f)) (min n 6)) s) (s + 1) + 2)
      have hK0 := KW_le s (by omega)
      have hM64 : 130 ≤ MM := by rw [hMM]; exact Nat.le_trans (m := KW s + 64 + 66) (by omega) (Nat.le_mul_of_pos_left _ (by omega))
      have hKp : KW s ≤ MM := by rw [hMM]; exact Nat.le_trans (m := KW s + 64 + 66) (by omega) (Nat.le_mul_of_pos_left _ (by omega))
      refine cView 14 (.d (.one (.v (.int .i64 (((dg (cfz (min n 6) (cutf 3 f)) (min n 6)) - 1 - s : Nat) : Int))))) rfl (le_int (by omega)) ?_
      refine cDrawK hTT 10 (by kernel_rfl) (by kernel_rfl) ?_
      refine .cons (OpS.V _ rfl) ?_
      refine .cons (OpS.V _ rfl) ?_
      refine .cons (OpS.C0 (aQMul (isqp (K := (KW s)) (c := (hvQ (rc (cfz (min n 6) (cutf 3 f))) (mkR (zv s1 (val (xs1.take 2))) (zv s2 (val (xs2.take 2)))) (dg (cfz (min n 6) (cutf 3 f)) (min n 6)) s)) (dg_z fun j hj => hvQ_z s j (by omega))) (show IsQP _ 64 2 (linQ (mkR (zv s1 (val (xs1.take 2))) (zv s2 (val (xs2.take 2)))) (((1 : Int) : Int) : Rat)) from isqp2 (M := 64) (N := 64) (q := mkR (zv s1 (val (xs1.take 2))) (zv s2 (val (xs2.take 2)))) (r := (((1 : Int) : Int) : Rat)) (by decide) (by decide)) (M := MM) (D := s + 1) (by omega) (by omega) (by rw [hMM]; exact Nat.le_refl _) (by omega) (by omega)) rfl rfl rfl) ?_
      refine .cons (OpS.V _ rfl) ?_
      refine .cons (OpS.V _ rfl) ?_
      refine .cons (OpS.V (.d (.one (.at 4 ((qel 64 (rc (cfz (min n 6) (cutf 3 f)))) ((dg (cfz (min n 6) (cutf 3 f)) (min n 6)) - 1 - s))))) (ixR (el := (qel 64 (rc (cfz (min n 6) (cutf 3 f))))) (z := (((dg (cfz (min n 6) (cutf 3 f)) (min n 6)) - 1 - s : Nat) : Int)) (n := (dg (cfz (min n 6) (cutf 3 f)) (min n 6))) rfl rfl rfl rfl rfl rfl (by omega) (by omega))) ?_
      refine .cons (OpS.V (.d (.agg (qn 64 ((rc (cfz (min n 6) (cutf 3 f))) ((dg (cfz (min n 6) (cutf 3 f)) (min n 6)) - 1 - s))))) rfl) ?_
      refine .cons (OpS.B _ rfl) ?_
      refine .cons (OpS.C0 (aQAdd (isqp (K := MM) (c := (conv (hvQ (rc (cfz (min n 6) (cutf 3 f))) (mkR (zv s1 (val (xs1.take 2))) (zv s2 (val (xs2.take 2)))) (dg (cfz (min n 6) (cutf 3 f)) (min n 6)) s) (linQ (mkR (zv s1 (val (xs1.take 2))) (zv s2 (val (xs2.take 2)))) (((1 : Int) : Int) : Rat)))) (dg_z (conv_z0Q (dg_z fun j hj => hvQ_z s j (by omega)) linQ_z))) (show IsQP _ 64 1 (oneQ (rc (cfz (min n 6) (cutf 3 f)) ((dg (cfz (min n 6) (cutf 3 f)) (min n 6)) - 1 - s))) from isqp1 (M := 64) (q := rc (cfz (min n 6) (cutf 3 f)) ((dg (cfz (min n 6) (cutf 3 f)) (min n 6)) - 1 - s)) (by decide)) (M := (max (((max MM 64) + 64) + 1) 64)) (by omega) (by omega) (by omega)) rfl rfl rfl) ?_
      refine .cons (OpS.V _ rfl) ?_
      refine .nil ?_
      refine mNil ?_
      refine tN ?_
      refine cSeq ?_
      have hd3 := dg_le (faddQ (conv (hvQ (rc (cfz (min n 6) (cutf 3 f))) (mkR (zv s1 (val (xs1.take 2))) (zv s2 (val (xs2.take 2)))) (dg (cfz (min n 6) (cutf 3 f)) (min n 6)) s) (linQ (mkR (zv s1 (val (xs1.take 2))) (zv s2 (val (xs2.take 2)))) (((1 : Int) : Int) : Rat))) (oneQ (rc (cfz (min n 6) (cutf 3 f)) ((dg (cfz (min n 6) (cutf 3 f)) (min n 6)) - 1 - s)))) (max (dg (conv (hvQ (rc (cfz (min n 6) (cutf 3 f))) (mkR (zv s1 (val (xs1.take 2))) (zv s2 (val (xs2.take 2)))) (dg (cfz (min n 6) (cutf 3 f)) (min n 6)) s) (linQ (mkR (zv s1 (val (xs1.take 2))) (zv s2 (val (xs2.take 2)))) (((1 : Int) : Int) : Rat))) (dg (hvQ (rc (cfz (min n 6) (cutf 3 f))) (mkR (zv s1 (val (xs1.take 2))) (zv s2 (val (xs2.take 2)))) (dg (cfz (min n 6) (cutf 3 f)) (min n 6)) s) (s + 1) + 2)) 1)
      by_cases hw0 : (dg (faddQ (conv (hvQ (rc (cfz (min n 6) (cutf 3 f))) (mkR (zv s1 (val (xs1.take 2))) (zv s2 (val (xs2.take 2)))) (dg (cfz (min n 6) (cutf 3 f)) (min n 6)) s) (linQ (mkR (zv s1 (val (xs1.take 2))) (zv s2 (val (xs2.take 2)))) (((1 : Int) : Int) : Rat))) (oneQ (rc (cfz (min n 6) (cutf 3 f)) ((dg (cfz (min n 6) (cutf 3 f)) (min n 6)) - 1 - s)))) (max (dg (conv (hvQ (rc (cfz (min n 6) (cutf 3 f))) (mkR (zv s1 (val (xs1.take 2))) (zv s2 (val (xs2.take 2)))) (dg (cfz (min n 6) (cutf 3 f)) (min n 6)) s) (linQ (mkR (zv s1 (val (xs1.take 2))) (zv s2 (val (xs2.take 2)))) (((1 : Int) : Int) : Rat))) ((dg (hvQ (rc (cfz (min n 6) (cutf 3 f))) (mkR (zv s1 (val (xs1.take 2))) (zv s2 (val (xs2.take 2)))) (dg (cfz (min n 6) (cutf 3 f)) (min n 6)) s) (s + 1)) + 2)) 1)) = 0
      · skip
        refine cReg ?_
        refine mV hTT _ rfl ?_
        refine mV hTT (.d (.one (.v (.int .i64 ((dg (faddQ (conv (hvQ (rc (cfz (min n 6) (cutf 3 f))) (mkR (zv s1 (val (xs1.take 2))) (zv s2 (val (xs2.take 2)))) (dg (cfz (min n 6) (cutf 3 f)) (min n 6)) s) (linQ (mkR (zv s1 (val (xs1.take 2))) (zv s2 (val (xs2.take 2)))) (((1 : Int) : Int) : Rat))) (oneQ (rc (cfz (min n 6) (cutf 3 f)) ((dg (cfz (min n 6) (cutf 3 f)) (min n 6)) - 1 - s)))) (max (dg (conv (hvQ (rc (cfz (min n 6) (cutf 3 f))) (mkR (zv s1 (val (xs1.take 2))) (zv s2 (val (xs2.take 2)))) (dg (cfz (min n 6) (cutf 3 f)) (min n 6)) s) (linQ (mkR (zv s1 (val (xs1.take 2))) (zv s2 (val (xs2.take 2)))) (((1 : Int) : Int) : Rat))) ((dg (hvQ (rc (cfz (min n 6) (cutf 3 f))) (mkR (zv s1 (val (xs1.take 2))) (zv s2 (val (xs2.take 2)))) (dg (cfz (min n 6) (cutf 3 f)) (min n 6)) s) (s + 1)) + 2)) 1) : Nat) : Int))))) rfl ?_
        refine mV hTT (.d (.one (.v (.bool false)))) (evb (decide_eq_false (by omega))) ?_
        refine mV hTT _ rfl ?_
        refine mG rfl rfl ?_
        refine mG rfl rfl ?_
        refine mG rfl rfl ?_
        refine mG rfl rfl ?_
        refine mG rfl rfl ?_
        refine mG rfl rfl ?_
        refine mG rfl rfl ?_
        refine mG rfl rfl ?_
        refine mV hTT _ rfl ?_
        refine mNil ?_
        refine tN ?_
        refine cF rfl ?_
        refine cSkip ?_
        refine bN ?_
        refine tN ?_
        refine cReg ?_
        refine mV hTT _ rfl ?_
        refine mV hTT (.d (.one (.v (.int .i64 (IntKind.i64.wrap ((((dg (cfz (min n 6) (cutf 3 f)) (min n 6)) - 1 - s : Nat) : Int) - 1)))))) rfl ?_
        refine mV hTT _ rfl ?_
        refine mNil ?_
        exact ⟨(s + 1), by omega, by omega, wk (sl := [(7, .d (.one (.row 4 (dg (cfz (min n 6) (cutf 3 f)) (min n 6)) (qel 64 (rc (cfz (min n 6) (cutf 3 f))))))), (8, .d (.one (.row 2 (dg (mvZ (cfz (min n 6) (cutf 3 f)) (zv s1 (val (xs1.take 2))) (zv s2 (val (xs2.take 2))) (dg (cfz (min n 6) (cutf 3 f)) (min n 6)) (dg (cfz (min n 6) (cutf 3 f)) (min n 6))) (dg (cfz (min n 6) (cutf 3 f)) (min n 6) + 1)) (zel 63140 (mvZ (cfz (min n 6) (cutf 3 f)) (zv s1 (val (xs1.take 2))) (zv s2 (val (xs2.take 2))) (dg (cfz (min n 6) (cutf 3 f)) (min n 6)) (dg (cfz (min n 6) (cutf 3 f)) (min n 6))))))), (9, .d (.one (.v (.int .i64 0)))), (11, .ptr 11 0), (13, .d (.one (.row 4 2 (fun i' j' => ((qn 64 (mkR (zv s1 (val (xs1.take 2))) (zv s2 (val (xs2.take 2)))) ++ qn 64 ((1 : Int) : Rat))[i' * 4 + j']?).getD (.v undef))))), (12, .d (.one (.row 4 (dg (hvQ (rc (cfz (min n 6) (cutf 3 f))) (mkR (zv s1 (val (xs1.take 2))) (zv s2 (val (xs2.take 2)))) (dg (cfz (min n 6) (cutf 3 f)) (min n 6)) (s + 1)) ((s + 1) + 1)) (qel (KW (s + 1)) (hvQ (rc (cfz (min n 6) (cutf 3 f))) (mkR (zv s1 (val (xs1.take 2))) (zv s2 (val (xs2.take 2)))) (dg (cfz (min n 6) (cutf 3 f)) (min n 6)) (s + 1)))))), (14, .d (.one (.v (.int .i64 (((dg (cfz (min n 6) (cutf 3 f)) (min n 6)) : Int) - 1 - ((s + 1) : Int))))))]) (hp := [(11, .box 38 (rn 6 (zv s2 (val (xs2.take 2)))))]) rfl ⟨hs rfl, hs rfl, hs rfl, hs rfl, hs rfl, hs' rfl (le_qrow (by omega) (dg_eq (faddQ_z (dg_z (conv_z0Q (dg_z fun j hj => hvQ_z s j (by omega)) linQ_z)) oneQ_z) (fun j hj => hvQ_z (s + 1) j (by omega))) (fun _ _ => rfl)), hs' rfl (le_int ((wr64 (by omega) (by omega)).trans (by omega))), trivial⟩ ⟨ho rfl, trivial⟩ rfl⟩
      · skip
        refine cReg ?_
        refine mV hTT _ rfl ?_
        refine mV hTT (.d (.one (.v (.int .i64 ((dg (faddQ (conv (hvQ (rc (cfz (min n 6) (cutf 3 f))) (mkR (zv s1 (val (xs1.take 2))) (zv s2 (val (xs2.take 2)))) (dg (cfz (min n 6) (cutf 3 f)) (min n 6)) s) (linQ (mkR (zv s1 (val (xs1.take 2))) (zv s2 (val (xs2.take 2)))) (((1 : Int) : Int) : Rat))) (oneQ (rc (cfz (min n 6) (cutf 3 f)) ((dg (cfz (min n 6) (cutf 3 f)) (min n 6)) - 1 - s)))) (max (dg (conv (hvQ (rc (cfz (min n 6) (cutf 3 f))) (mkR (zv s1 (val (xs1.take 2))) (zv s2 (val (xs2.take 2)))) (dg (cfz (min n 6) (cutf 3 f)) (min n 6)) s) (linQ (mkR (zv s1 (val (xs1.take 2))) (zv s2 (val (xs2.take 2)))) (((1 : Int) : Int) : Rat))) ((dg (hvQ (rc (cfz (min n 6) (cutf 3 f))) (mkR (zv s1 (val (xs1.take 2))) (zv s2 (val (xs2.take 2)))) (dg (cfz (min n 6) (cutf 3 f)) (min n 6)) s) (s + 1)) + 2)) 1) : Nat) : Int))))) rfl ?_
        refine mV hTT (.d (.one (.v (.bool true)))) (evb (decide_eq_true (by omega))) ?_
        refine mV hTT _ rfl ?_
        refine mV hTT _ rfl ?_
        refine mV hTT _ rfl ?_
        refine mV hTT (.d (.one (.v (.int .i64 ((dg (faddQ (conv (hvQ (rc (cfz (min n 6) (cutf 3 f))) (mkR (zv s1 (val (xs1.take 2))) (zv s2 (val (xs2.take 2)))) (dg (cfz (min n 6) (cutf 3 f)) (min n 6)) s) (linQ (mkR (zv s1 (val (xs1.take 2))) (zv s2 (val (xs2.take 2)))) (((1 : Int) : Int) : Rat))) (oneQ (rc (cfz (min n 6) (cutf 3 f)) ((dg (cfz (min n 6) (cutf 3 f)) (min n 6)) - 1 - s)))) (max (dg (conv (hvQ (rc (cfz (min n 6) (cutf 3 f))) (mkR (zv s1 (val (xs1.take 2))) (zv s2 (val (xs2.take 2)))) (dg (cfz (min n 6) (cutf 3 f)) (min n 6)) s) (linQ (mkR (zv s1 (val (xs1.take 2))) (zv s2 (val (xs2.take 2)))) (((1 : Int) : Int) : Rat))) ((dg (hvQ (rc (cfz (min n 6) (cutf 3 f))) (mkR (zv s1 (val (xs1.take 2))) (zv s2 (val (xs2.take 2)))) (dg (cfz (min n 6) (cutf 3 f)) (min n 6)) s) (s + 1)) + 2)) 1) : Nat) : Int))))) rfl ?_
        refine mV hTT (.d (.one (.v (.int .i64 (((dg (faddQ (conv (hvQ (rc (cfz (min n 6) (cutf 3 f))) (mkR (zv s1 (val (xs1.take 2))) (zv s2 (val (xs2.take 2)))) (dg (cfz (min n 6) (cutf 3 f)) (min n 6)) s) (linQ (mkR (zv s1 (val (xs1.take 2))) (zv s2 (val (xs2.take 2)))) (((1 : Int) : Int) : Rat))) (oneQ (rc (cfz (min n 6) (cutf 3 f)) ((dg (cfz (min n 6) (cutf 3 f)) (min n 6)) - 1 - s)))) (max (dg (conv (hvQ (rc (cfz (min n 6) (cutf 3 f))) (mkR (zv s1 (val (xs1.take 2))) (zv s2 (val (xs2.take 2)))) (dg (cfz (min n 6) (cutf 3 f)) (min n 6)) s) (linQ (mkR (zv s1 (val (xs1.take 2))) (zv s2 (val (xs2.take 2)))) (((1 : Int) : Int) : Rat))) ((dg (hvQ (rc (cfz (min n 6) (cutf 3 f))) (mkR (zv s1 (val (xs1.take 2))) (zv s2 (val (xs2.take 2)))) (dg (cfz (min n 6) (cutf 3 f)) (min n 6)) s) (s + 1)) + 2)) 1)) - 1 : Nat) : Int))))) (evi ((wr64 (by omega) (by omega)).trans (by omega))) ?_
        refine mV hTT (.d (.one (.at 4 ((qel (max (((max MM 64) + 64) + 1) 64) (faddQ (conv (hvQ (rc (cfz (min n 6) (cutf 3 f))) (mkR (zv s1 (val (xs1.take 2))) (zv s2 (val (xs2.take 2)))) (dg (cfz (min n 6) (cutf 3 f)) (min n 6)) s) (linQ (mkR (zv s1 (val (xs1.take 2))) (zv s2 (val (xs2.take 2)))) (((1 : Int) : Int) : Rat))) (oneQ (rc (cfz (min n 6) (cutf 3 f)) ((dg (cfz (min n 6) (cutf 3 f)) (min n 6)) - 1 - s))))) ((dg (faddQ (conv (hvQ (rc (cfz (min n 6) (cutf 3 f))) (mkR (zv s1 (val (xs1.take 2))) (zv s2 (val (xs2.take 2)))) (dg (cfz (min n 6) (cutf 3 f)) (min n 6)) s) (linQ (mkR (zv s1 (val (xs1.take 2))) (zv s2 (val (xs2.take 2)))) (((1 : Int) : Int) : Rat))) (oneQ (rc (cfz (min n 6) (cutf 3 f)) ((dg (cfz (min n 6) (cutf 3 f)) (min n 6)) - 1 - s)))) (max (dg (conv (hvQ (rc (cfz (min n 6) (cutf 3 f))) (mkR (zv s1 (val (xs1.take 2))) (zv s2 (val (xs2.take 2)))) (dg (cfz (min n 6) (cutf 3 f)) (min n 6)) s) (linQ (mkR (zv s1 (val (xs1.take 2))) (zv s2 (val (xs2.take 2)))) (((1 : Int) : Int) : Rat))) ((dg (hvQ (rc (cfz (min n 6) (cutf 3 f))) (mkR (zv s1 (val (xs1.take 2))) (zv s2 (val (xs2.take 2)))) (dg (cfz (min n 6) (cutf 3 f)) (min n 6)) s) (s + 1)) + 2)) 1)) - 1))))) (ixR (el := (qel (max (((max MM 64) + 64) + 1) 64) (faddQ (conv (hvQ (rc (cfz (min n 6) (cutf 3 f))) (mkR (zv s1 (val (xs1.take 2))) (zv s2 (val (xs2.take 2)))) (dg (cfz (min n 6) (cutf 3 f)) (min n 6)) s) (linQ (mkR (zv s1 (val (xs1.take 2))) (zv s2 (val (xs2.take 2)))) (((1 : Int) : Int) : Rat))) (oneQ (rc (cfz (min n 6) (cutf 3 f)) ((dg (cfz (min n 6) (cutf 3 f)) (min n 6)) - 1 - s)))))) (z := (((dg (faddQ (conv (hvQ (rc (cfz (min n 6) (cutf 3 f))) (mkR (zv s1 (val (xs1.take 2))) (zv s2 (val (xs2.take 2)))) (dg (cfz (min n 6) (cutf 3 f)) (min n 6)) s) (linQ (mkR (zv s1 (val (xs1.take 2))) (zv s2 (val (xs2.take 2)))) (((1 : Int) : Int) : Rat))) (oneQ (rc (cfz (min n 6) (cutf 3 f)) ((dg (cfz (min n 6) (cutf 3 f)) (min n 6)) - 1 - s)))) (max (dg (conv (hvQ (rc (cfz (min n 6) (cutf 3 f))) (mkR (zv s1 (val (xs1.take 2))) (zv s2 (val (xs2.take 2)))) (dg (cfz (min n 6) (cutf 3 f)) (min n 6)) s) (linQ (mkR (zv s1 (val (xs1.take 2))) (zv s2 (val (xs2.take 2)))) (((1 : Int) : Int) : Rat))) ((dg (hvQ (rc (cfz (min n 6) (cutf 3 f))) (mkR (zv s1 (val (xs1.take 2))) (zv s2 (val (xs2.take 2)))) (dg (cfz (min n 6) (cutf 3 f)) (min n 6)) s) (s + 1)) + 2)) 1)) - 1 : Nat) : Int)) (n := (dg (faddQ (conv (hvQ (rc (cfz (min n 6) (cutf 3 f))) (mkR (zv s1 (val (xs1.take 2))) (zv s2 (val (xs2.take 2)))) (dg (cfz (min n 6) (cutf 3 f)) (min n 6)) s) (linQ (mkR (zv s1 (val (xs1.take 2))) (zv s2 (val (xs2.take 2)))) (((1 : Int) : Int) : Rat))) (oneQ (rc (cfz (min n 6) (cutf 3 f)) ((dg (cfz (min n 6) (cutf 3 f)) (min n 6)) - 1 - s)))) (max (dg (conv (hvQ (rc (cfz (min n 6) (cutf 3 f))) (mkR (zv s1 (val (xs1.take 2))) (zv s2 (val (xs2.take 2)))) (dg (cfz (min n 6) (cutf 3 f)) (min n 6)) s) (linQ (mkR (zv s1 (val (xs1.take 2))) (zv s2 (val (xs2.take 2)))) (((1 : Int) : Int) : Rat))) ((dg (hvQ (rc (cfz (min n 6) (cutf 3 f))) (mkR (zv s1 (val (xs1.take 2))) (zv s2 (val (xs2.take 2)))) (dg (cfz (min n 6) (cutf 3 f)) (min n 6)) s) (s + 1)) + 2)) 1))) rfl rfl rfl rfl rfl rfl (by omega) (by omega)) ?_
        refine mV hTT _ rfl ?_
        refine mV hTT (.d (.agg (rn (max (((max MM 64) + 64) + 1) 64) (Rat.num ((faddQ (conv (hvQ (rc (cfz (min n 6) (cutf 3 f))) (mkR (zv s1 (val (xs1.take 2))) (zv s2 (val (xs2.take 2)))) (dg (cfz (min n 6) (cutf 3 f)) (min n 6)) s) (linQ (mkR (zv s1 (val (xs1.take 2))) (zv s2 (val (xs2.take 2)))) (((1 : Int) : Int) : Rat))) (oneQ (rc (cfz (min n 6) (cutf 3 f)) ((dg (cfz (min n 6) (cutf 3 f)) (min n 6)) - 1 - s)))) ((dg (faddQ (conv (hvQ (rc (cfz (min n 6) (cutf 3 f))) (mkR (zv s1 (val (xs1.take 2))) (zv s2 (val (xs2.take 2)))) (dg (cfz (min n 6) (cutf 3 f)) (min n 6)) s) (linQ (mkR (zv s1 (val (xs1.take 2))) (zv s2 (val (xs2.take 2)))) (((1 : Int) : Int) : Rat))) (oneQ (rc (cfz (min n 6) (cutf 3 f)) ((dg (cfz (min n 6) (cutf 3 f)) (min n 6)) - 1 - s)))) (max (dg (conv (hvQ (rc (cfz (min n 6) (cutf 3 f))) (mkR (zv s1 (val (xs1.take 2))) (zv s2 (val (xs2.take 2)))) (dg (cfz (min n 6) (cutf 3 f)) (min n 6)) s) (linQ (mkR (zv s1 (val (xs1.take 2))) (zv s2 (val (xs2.take 2)))) (((1 : Int) : Int) : Rat))) ((dg (hvQ (rc (cfz (min n 6) (cutf 3 f))) (mkR (zv s1 (val (xs1.take 2))) (zv s2 (val (xs2.take 2)))) (dg (cfz (min n 6) (cutf 3 f)) (min n 6)) s) (s + 1)) + 2)) 1)) - 1)))))) rfl ?_
        refine mC0 (aRZero (isr (max (((max MM 64) + 64) + 1) 64) (Rat.num ((faddQ (conv (hvQ (rc (cfz (min n 6) (cutf 3 f))) (mkR (zv s1 (val (xs1.take 2))) (zv s2 (val (xs2.take 2)))) (dg (cfz (min n 6) (cutf 3 f)) (min n 6)) s) (linQ (mkR (zv s1 (val (xs1.take 2))) (zv s2 (val (xs2.take 2)))) (((1 : Int) : Int) : Rat))) (oneQ (rc (cfz (min n 6) (cutf 3 f)) ((dg (cfz (min n 6) (cutf 3 f)) (min n 6)) - 1 - s)))) ((dg (faddQ (conv (hvQ (rc (cfz (min n 6) (cutf 3 f))) (mkR (zv s1 (val (xs1.take 2))) (zv s2 (val (xs2.take 2)))) (dg (cfz (min n 6) (cutf 3 f)) (min n 6)) s) (linQ (mkR (zv s1 (val (xs1.take 2))) (zv s2 (val (xs2.take 2)))) (((1 : Int) : Int) : Rat))) (oneQ (rc (cfz (min n 6) (cutf 3 f)) ((dg (cfz (min n 6) (cutf 3 f)) (min n 6)) - 1 - s)))) (max (dg (conv (hvQ (rc (cfz (min n 6) (cutf 3 f))) (mkR (zv s1 (val (xs1.take 2))) (zv s2 (val (xs2.take 2)))) (dg (cfz (min n 6) (cutf 3 f)) (min n 6)) s) (linQ (mkR (zv s1 (val (xs1.take 2))) (zv s2 (val (xs2.take 2)))) (((1 : Int) : Int) : Rat))) ((dg (hvQ (rc (cfz (min n 6) (cutf 3 f))) (mkR (zv s1 (val (xs1.take 2))) (zv s2 (val (xs2.take 2)))) (dg (cfz (min n 6) (cutf 3 f)) (min n 6)) s) (s + 1)) + 2)) 1)) - 1))))) rfl rfl rfl ?_
        refine mV hTT _ rfl ?_
        refine mNil ?_
        refine tN ?_
        refine cView 81 (.d (.one (.v (.bool false)))) rfl (le_bool (decide_eq_false fun e => dg_ne hw0 (Rat.num_eq_zero.1 e))) ?_
        refine cF rfl ?_
        refine cSkip ?_
        refine bN ?_
        refine tN ?_
        refine cReg ?_
        refine mV hTT _ rfl ?_
        refine mV hTT (.d (.one (.v (.int .i64 (IntKind.i64.wrap ((((dg (cfz (min n 6) (cutf 3 f)) (min n 6)) - 1 - s : Nat) : Int) - 1)))))) rfl ?_
        refine mV hTT _ rfl ?_
        refine mNil ?_
        exact ⟨(s + 1), by omega, by omega, wk (sl := [(7, .d (.one (.row 4 (dg (cfz (min n 6) (cutf 3 f)) (min n 6)) (qel 64 (rc (cfz (min n 6) (cutf 3 f))))))), (8, .d (.one (.row 2 (dg (mvZ (cfz (min n 6) (cutf 3 f)) (zv s1 (val (xs1.take 2))) (zv s2 (val (xs2.take 2))) (dg (cfz (min n 6) (cutf 3 f)) (min n 6)) (dg (cfz (min n 6) (cutf 3 f)) (min n 6))) (dg (cfz (min n 6) (cutf 3 f)) (min n 6) + 1)) (zel 63140 (mvZ (cfz (min n 6) (cutf 3 f)) (zv s1 (val (xs1.take 2))) (zv s2 (val (xs2.take 2))) (dg (cfz (min n 6) (cutf 3 f)) (min n 6)) (dg (cfz (min n 6) (cutf 3 f)) (min n 6))))))), (9, .d (.one (.v (.int .i64 0)))), (11, .ptr 11 0), (13, .d (.one (.row 4 2 (fun i' j' => ((qn 64 (mkR (zv s1 (val (xs1.take 2))) (zv s2 (val (xs2.take 2)))) ++ qn 64 ((1 : Int) : Rat))[i' * 4 + j']?).getD (.v undef))))), (12, .d (.one (.row 4 (dg (hvQ (rc (cfz (min n 6) (cutf 3 f))) (mkR (zv s1 (val (xs1.take 2))) (zv s2 (val (xs2.take 2)))) (dg (cfz (min n 6) (cutf 3 f)) (min n 6)) (s + 1)) ((s + 1) + 1)) (qel (KW (s + 1)) (hvQ (rc (cfz (min n 6) (cutf 3 f))) (mkR (zv s1 (val (xs1.take 2))) (zv s2 (val (xs2.take 2)))) (dg (cfz (min n 6) (cutf 3 f)) (min n 6)) (s + 1)))))), (14, .d (.one (.v (.int .i64 (((dg (cfz (min n 6) (cutf 3 f)) (min n 6)) : Int) - 1 - ((s + 1) : Int))))))]) (hp := [(11, .box 38 (rn 6 (zv s2 (val (xs2.take 2)))))]) rfl ⟨hs rfl, hs rfl, hs rfl, hs rfl, hs rfl, hs' rfl (le_qrow (by omega) (dg_eq (faddQ_z (dg_z (conv_z0Q (dg_z fun j hj => hvQ_z s j (by omega)) linQ_z)) oneQ_z) (fun j hj => hvQ_z (s + 1) j (by omega))) (fun _ _ => rfl)), hs' rfl (le_int ((wr64 (by omega) (by omega)).trans (by omega))), trivial⟩ ⟨ho rfl, trivial⟩ rfl⟩
    · skip
      refine cExit ?_
      refine tE ?_
      refine tE ?_
      refine bE ?_
      refine tN ?_
      refine cSeq ?_
      refine cSeq ?_
      have hie : (dg (cfz (min n 6) (cutf 3 f)) (min n 6)) = s := by have h0 := of_decide_eq_false hc1; omega
      subst hie
      have hKN := KW_le (dg (cfz (min n 6) (cutf 3 f)) (min n 6)) (by omega)
      refine cReg ?_
      refine mV hTT _ rfl ?_
      refine mNil ?_
      refine tN ?_
      refine cBlock ?_
      refine cLoop (ι := Nat) (fun (j : Nat) => ⟨108, [(7, .d (.one (.row 4 (dg (cfz (min n 6) (cutf 3 f)) (min n 6)) (qel 64 (rc (cfz (min n 6) (cutf 3 f))))))), (8, .d (.one (.row 2 (dg (mvZ (cfz (min n 6) (cutf 3 f)) (zv s1 (val (xs1.take 2))) (zv s2 (val (xs2.take 2))) (dg (cfz (min n 6) (cutf 3 f)) (min n 6)) (dg (cfz (min n 6) (cutf 3 f)) (min n 6))) (dg (cfz (min n 6) (cutf 3 f)) (min n 6) + 1)) (zel 63140 (mvZ (cfz (min n 6) (cutf 3 f)) (zv s1 (val (xs1.take 2))) (zv s2 (val (xs2.take 2))) (dg (cfz (min n 6) (cutf 3 f)) (min n 6)) (dg (cfz (min n 6) (cutf 3 f)) (min n 6))))))), (9, .d (.one (.v (.int .i64 0)))), (11, .ptr 11 0), (12, .d (.one (.row 4 (dg (scQ (hvQ (rc (cfz (min n 6) (cutf 3 f))) (mkR (zv s1 (val (xs1.take 2))) (zv s2 (val (xs2.take 2)))) (dg (cfz (min n 6) (cutf 3 f)) (min n 6)) (dg (cfz (min n 6) (cutf 3 f)) (min n 6))) (mkR (zv s2 (val (xs2.take 2))) 1) j) ((dg (cfz (min n 6) (cutf 3 f)) (min n 6)) + 1)) (qel (KW (dg (cfz (min n 6) (cutf 3 f)) (min n 6)) + 65 * j) (scQ (hvQ (rc (cfz (min n 6) (cutf 3 f))) (mkR (zv s1 (val (xs1.take 2))) (zv s2 (val (xs2.take 2)))) (dg (cfz (min n 6) (cutf 3 f)) (min n 6)) (dg (cfz (min n 6) (cutf 3 f)) (min n 6))) (mkR (zv s2 (val (xs2.take 2))) 1) j))))), (15, .d (.one (.v (.int .i64 ((j + 1 : Nat) : Int)))))], [(11, .box 38 (rn 6 (zv s2 (val (xs2.take 2)))))]⟩) (fun (j : Nat) => j ≤ (dg (cfz (min n 6) (cutf 3 f)) (min n 6)) - 1) (fun (j : Nat) => (dg (cfz (min n 6) (cutf 3 f)) (min n 6)) - 1 - j) 0 (Nat.zero_le _) (wk (sl := [(7, .d (.one (.row 4 (dg (cfz (min n 6) (cutf 3 f)) (min n 6)) (qel 64 (rc (cfz (min n 6) (cutf 3 f))))))), (8, .d (.one (.row 2 (dg (mvZ (cfz (min n 6) (cutf 3 f)) (zv s1 (val (xs1.take 2))) (zv s2 (val (xs2.take 2))) (dg (cfz (min n 6) (cutf 3 f)) (min n 6)) (dg (cfz (min n 6) (cutf 3 f)) (min n 6))) (dg (cfz (min n 6) (cutf 3 f)) (min n 6) + 1)) (zel 63140 (mvZ (cfz (min n 6) (cutf 3 f)) (zv s1 (val (xs1.take 2))) (zv s2 (val (xs2.take 2))) (dg (cfz (min n 6) (cutf 3 f)) (min n 6)) (dg (cfz (min n 6) (cutf 3 f)) (min n 6))))))), (9, .d (.one (.v (.int .i64 0)))), (11, .ptr 11 0), (12, .d (.one (.row 4 (dg (scQ (hvQ (rc (cfz (min n 6) (cutf 3 f))) (mkR (zv s1 (val (xs1.take 2))) (zv s2 (val (xs2.take 2)))) (dg (cfz (min n 6) (cutf 3 f)) (min n 6)) (dg (cfz (min n 6) (cutf 3 f)) (min n 6))) (mkR (zv s2 (val (xs2.take 2))) 1) 0) ((dg (cfz (min n 6) (cutf 3 f)) (min n 6)) + 1)) (qel (KW (dg (cfz (min n 6) (cutf 3 f)) (min n 6)) + 65 * 0) (scQ (hvQ (rc (cfz (min n 6) (cutf 3 f))) (mkR (zv s1 (val (xs1.take 2))) (zv s2 (val (xs2.take 2)))) (dg (cfz (min n 6) (cutf 3 f)) (min n 6)) (dg (cfz (min n 6) (cutf 3 f)) (min n 6))) (mkR (zv s2 (val (xs2.take 2))) 1) 0))))), (15, .d (.one (.v (.int .i64 ((0 + 1 : Nat) : Int)))))]) (hp := [(11, .box 38 (rn 6 (zv s2 (val (xs2.take 2)))))]) rfl ⟨hs rfl, hs rfl, hs rfl, hs rfl, hs' rfl (le_qrow (by omega) rfl (fun _ _ => rfl)), hs' rfl (le_int rfl), trivial⟩ ⟨ho rfl, trivial⟩ rfl) ?_
      rintro j hI
      have hj : j ≤ (dg (cfz (min n 6) (cutf 3 f)) (min n 6)) - 1 := hI
      show AW Try.prog _ _ ⟨108, [(7, .d (.one (.row 4 (dg (cfz (min n 6) (cutf 3 f)) (min n 6)) (qel 64 (rc (cfz (min n 6) (cutf 3 f))))))), (8, .d (.one (.row 2 (dg (mvZ (cfz (min n 6) (cutf 3 f)) (zv s1 (val (xs1.take 2))) (zv s2 (val (xs2.take 2))) (dg (cfz (min n 6) (cutf 3 f)) (min n 6)) (dg (cfz (min n 6) (cutf 3 f)) (min n 6))) (dg (cfz (min n 6) (cutf 3 f)) (min n 6) + 1)) (zel 63140 (mvZ (cfz (min n 6) (cutf 3 f)) (zv s1 (val (xs1.take 2))) (zv s2 (val (xs2.take 2))) (dg (cfz (min n 6) (cutf 3 f)) (min n 6)) (dg (cfz (min n 6) (cutf 3 f)) (min n 6))))))), (9, .d (.one (.v (.int .i64 0)))), (11, .ptr 11 0), (12, .d (.one (.row 4 (dg (scQ (hvQ (rc (cfz (min n 6) (cutf 3 f))) (mkR (zv s1 (val (xs1.take 2))) (zv s2 (val (xs2.take 2)))) (dg (cfz (min n 6) (cutf 3 f)) (min n 6)) (dg (cfz (min n 6) (cutf 3 f)) (min n 6))) (mkR (zv s2 (val (xs2.take 2))) 1) j) ((dg (cfz (min n 6) (cutf 3 f)) (min n 6)) + 1)) (qel (KW (dg (cfz (min n 6) (cutf 3 f)) (min n 6)) + 65 * j) (scQ (hvQ (rc (cfz (min n 6) (cutf 3 f))) (mkR (zv s1 (val (xs1.take 2))) (zv s2 (val (xs2.take 2)))) (dg (cfz (min n 6) (cutf 3 f)) (min n 6)) (dg (cfz (min n 6) (cutf 3 f)) (min n 6))) (mkR (zv s2 (val (xs2.take 2))) 1) j))))), (15, .d (.one (.v (.int .i64 ((j + 1 : Nat) : Int)))))], [(11, .box 38 (rn 6 (zv s2 (val (xs2.take 2)))))]⟩
      refine cSeq ?_
      refine cSeq ?_
      refine cReg ?_
      refine mV hTT _ rfl ?_
      refine mV hTT _ rfl ?_
      refine mV hTT (.d (.one (.v (.int .i64 ((dg (cfz (min n 6) (cutf 3 f)) (min n 6) : Nat) : Int))))) rfl ?_
      refine mV hTT (.d (.one (.v (.bool (decide (((j + 1 : Nat) : Int) < ((dg (cfz (min n 6) (cutf 3 f)) (min n 6) : Nat) : Int))))))) rfl ?_
      refine mNil ?_
      refine tN ?_
      refine cCond rfl (fun hc2 => ?_) (fun hc2 => ?_)
      · skip
        refine cSkip ?_
        refine tN ?_
        refine cSeq ?_
        refine cBlock ?_
        have hjd : j + 1 < (dg (cfz (min n 6) (cutf 3 f)) (min n 6)) := by have h0 := of_decide_eq_true hc2; omega
        have hd4 := dg_le (scQ (hvQ (rc (cfz (min n 6) (cutf 3 f))) (mkR (zv s1 (val (xs1.take 2))) (zv s2 (val (xs2.take 2)))) (dg (cfz (min n 6) (cutf 3 f)) (min n 6)) (dg (cfz (min n 6) (cutf 3 f)) (min n 6))) (mkR (zv s2 (val (xs2.take 2))) 1) j) ((dg (cfz (min n 6) (cutf 3 f)) (min n 6)) + 1)
        refine cDrawK hTT 6 (by kernel_rfl) (by kernel_rfl) ?_
        refine .cons (OpS.V _ rfl) ?_
        refine .cons (OpS.V (.d (.agg (rn 6 (zv s2 (val (xs2.take 2)))))) rfl) ?_
        refine .cons (OpS.C0 (aROf (n := 1) (by decide) (by decide)) rfl rfl rfl) ?_
        refine .cons (OpS.C0 (aRMake (isr 6 (zv s2 (val (xs2.take 2)))) (isr 64 1) (M := 64) (by decide) (by decide)) rfl rfl rfl) ?_
        refine .cons (OpS.C0 (aQScale (isqp (K := (KW (dg (cfz (min n 6) (cutf 3 f)) (min n 6)) + 65 * j)) (c := (scQ (hvQ (rc (cfz (min n 6) (cutf 3 f))) (mkR (zv s1 (val (xs1.take 2))) (zv s2 (val (xs2.take 2)))) (dg (cfz (min n 6) (cutf 3 f)) (min n 6)) (dg (cfz (min n 6) (cutf 3 f)) (min n 6))) (mkR (zv s2 (val (xs2.take 2))) 1) j)) (dg_z (scQ_z (fun j hj => hvQ_z (dg (cfz (min n 6) (cutf 3 f)) (min n 6)) j (by omega)) j))) (isq 64 (mkR (zv s2 (val (xs2.take 2))) 1)) (M := (max (((KW (dg (cfz (min n 6) (cutf 3 f)) (min n 6)) + 65 * j) + 64) + 1) 64)) (by omega) (by omega) (by omega)) rfl rfl rfl) ?_
        refine .cons (OpS.V _ rfl) ?_
        refine .nil ?_
        refine mNil ?_
        refine bN ?_
        refine tN ?_
        refine cReg ?_
        refine mV hTT _ rfl ?_
        refine mV hTT (.d (.one (.v (.int .i64 (IntKind.i64.wrap (((j + 1 : Nat) : Int) + 1)))))) rfl ?_
        refine mV hTT _ rfl ?_
        refine mNil ?_
        exact ⟨(j + 1), by omega, by omega, wk (sl := [(7, .d (.one (.row 4 (dg (cfz (min n 6) (cutf 3 f)) (min n 6)) (qel 64 (rc (cfz (min n 6) (cutf 3 f))))))), (8, .d (.one (.row 2 (dg (mvZ (cfz (min n 6) (cutf 3 f)) (zv s1 (val (xs1.take 2))) (zv s2 (val (xs2.take 2))) (dg (cfz (min n 6) (cutf 3 f)) (min n 6)) (dg (cfz (min n 6) (cutf 3 f)) (min n 6))) (dg (cfz (min n 6) (cutf 3 f)) (min n 6) + 1)) (zel 63140 (mvZ (cfz (min n 6) (cutf 3 f)) (zv s1 (val (xs1.take 2))) (zv s2 (val (xs2.take 2))) (dg (cfz (min n 6) (cutf 3 f)) (min n 6)) (dg (cfz (min n 6) (cutf 3 f)) (min n 6))))))), (9, .d (.one (.v (.int .i64 0)))), (11, .ptr 11 0), (12, .d (.one (.row 4 (dg (scQ (hvQ (rc (cfz (min n 6) (cutf 3 f))) (mkR (zv s1 (val (xs1.take 2))) (zv s2 (val (xs2.take 2)))) (dg (cfz (min n 6) (cutf 3 f)) (min n 6)) (dg (cfz (min n 6) (cutf 3 f)) (min n 6))) (mkR (zv s2 (val (xs2.take 2))) 1) (j + 1)) ((dg (cfz (min n 6) (cutf 3 f)) (min n 6)) + 1)) (qel (KW (dg (cfz (min n 6) (cutf 3 f)) (min n 6)) + 65 * (j + 1)) (scQ (hvQ (rc (cfz (min n 6) (cutf 3 f))) (mkR (zv s1 (val (xs1.take 2))) (zv s2 (val (xs2.take 2)))) (dg (cfz (min n 6) (cutf 3 f)) (min n 6)) (dg (cfz (min n 6) (cutf 3 f)) (min n 6))) (mkR (zv s2 (val (xs2.take 2))) 1) (j + 1)))))), (15, .d (.one (.v (.int .i64 (((j + 1) + 1 : Nat) : Int)))))]) (hp := [(11, .box 38 (rn 6 (zv s2 (val (xs2.take 2)))))]) rfl ⟨hs rfl, hs rfl, hs rfl, hs rfl, hs' rfl (le_qrow (by omega) (dg_eq (fsclQ_z (dg_z (scQ_z (fun j hj => hvQ_z (dg (cfz (min n 6) (cutf 3 f)) (min n 6)) j (by omega)) j))) (scQ_z (fun j hj => hvQ_z (dg (cfz (min n 6) (cutf 3 f)) (min n 6)) j (by omega)) (j + 1))) (fun _ _ => rfl)), hs' rfl (le_int (inc64 (by omega))), trivial⟩ ⟨ho rfl, trivial⟩ rfl⟩
      · skip
        refine cExit ?_
        refine tE ?_
        refine tE ?_
        refine bE ?_
        refine tN ?_
        refine cSeq ?_
        have hje : j = (dg (cfz (min n 6) (cutf 3 f)) (min n 6)) - 1 := by have h0 := of_decide_eq_false hc2; omega
        have hme : ∀ i, (scQ (hvQ (rc (cfz (min n 6) (cutf 3 f))) (mkR (zv s1 (val (xs1.take 2))) (zv s2 (val (xs2.take 2)))) (dg (cfz (min n 6) (cutf 3 f)) (min n 6)) (dg (cfz (min n 6) (cutf 3 f)) (min n 6))) (mkR (zv s2 (val (xs2.take 2))) 1) j) i = rc (mvZ (cfz (min n 6) (cutf 3 f)) (zv s1 (val (xs1.take 2))) (zv s2 (val (xs2.take 2))) (dg (cfz (min n 6) (cutf 3 f)) (min n 6)) (dg (cfz (min n 6) (cutf 3 f)) (min n 6))) i := fun i => by rw [hje]; exact mv_end hy i
        have hd5 := dg_le (mvZ (cfz (min n 6) (cutf 3 f)) (zv s1 (val (xs1.take 2))) (zv s2 (val (xs2.take 2))) (dg (cfz (min n 6) (cutf 3 f)) (min n 6)) (dg (cfz (min n 6) (cutf 3 f)) (min n 6))) ((dg (cfz (min n 6) (cutf 3 f)) (min n 6)) + 1)
        refine cReg ?_
        refine mV hTT _ rfl ?_
        refine mV hTT (.d (.one (.v (.bool true)))) rfl ?_
        refine mV hTT _ rfl ?_
        refine mV hTT _ rfl ?_
        refine mV hTT _ rfl ?_
        refine mC0 (aIs (K := (KW (dg (cfz (min n 6) (cutf 3 f)) (min n 6)) + 65 * j)) (L := 63140) (n := (dg (scQ (hvQ (rc (cfz (min n 6) (cutf 3 f))) (mkR (zv s1 (val (xs1.take 2))) (zv s2 (val (xs2.take 2)))) (dg (cfz (min n 6) (cutf 3 f)) (min n 6)) (dg (cfz (min n 6) (cutf 3 f)) (min n 6))) (mkR (zv s2 (val (xs2.take 2))) 1) j) ((dg (cfz (min n 6) (cutf 3 f)) (min n 6)) + 1))) (m := (dg (mvZ (cfz (min n 6) (cutf 3 f)) (zv s1 (val (xs1.take 2))) (zv s2 (val (xs2.take 2))) (dg (cfz (min n 6) (cutf 3 f)) (min n 6)) (dg (cfz (min n 6) (cutf 3 f)) (min n 6))) (dg (cfz (min n 6) (cutf 3 f)) (min n 6) + 1))) (q := (scQ (hvQ (rc (cfz (min n 6) (cutf 3 f))) (mkR (zv s1 (val (xs1.take 2))) (zv s2 (val (xs2.take 2)))) (dg (cfz (min n 6) (cutf 3 f)) (min n 6)) (dg (cfz (min n 6) (cutf 3 f)) (min n 6))) (mkR (zv s2 (val (xs2.take 2))) 1) j)) (c := (mvZ (cfz (min n 6) (cutf 3 f)) (zv s1 (val (xs1.take 2))) (zv s2 (val (xs2.take 2))) (dg (cfz (min n 6) (cutf 3 f)) (min n 6)) (dg (cfz (min n 6) (cutf 3 f)) (min n 6)))) (fun _ _ _ h => h) (fun _ _ _ h => h) ((dg_fun hme _).trans (dg_cast _)) (fun i _ => hme i) (by omega) (by omega) (by decide)) rfl rfl rfl ?_
        refine mV hTT _ rfl ?_
        refine mV hTT _ rfl ?_
        refine mC0 (aWakes) rfl rfl rfl ?_
        refine mV hTT _ rfl ?_
        refine mV hTT _ rfl ?_
        refine mNil ?_
        refine tN ?_
        refine cRet ?_
        exact rQ rfl (AV.le.rfl)

end Go.Proofs.Ytnnpjkalkfoolaa
