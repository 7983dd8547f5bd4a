/-
  CURVES, by the machine (1): over, norm, Make, Of, Deg; comparisons of orrerykeep.
-/
import Derived.Test.YtcnfblffeghboaaJ4
set_option linter.unusedVariables false
set_option linter.unusedSimpArgs false
namespace Go.Proofs.Ytcnfblffeghboaa
open Go.RowKit

set_option maxRecDepth 100000 in
set_option maxHeartbeats 4000000 in
theorem aCOver {a : Lf} {b : List Lf} {K L M n : Nat} {c : Nat → Int} {y : Int} (ha : IsP a K n c) (hb : IsZ b L y) (hy : y ≠ 0) (hd : ∀ i, i < n → y ∣ c i) (hn : n ≤ 1000) (hM : max K 1 + 1 ≤ M := by decide) (hMM : M ≤ 100000000 := by decide) (hL : L ≤ 100000000 := by decide) : ACall Try.prog 61 [.one a, .agg b] (.d (.one (prow M (dg (fdv c y) n) (fdv c y)))) := by
  obtain ⟨⟨fa, ha, ea⟩, za⟩ := ha
  obtain ⟨s, xs, hb, hy0⟩ := hb
  refine ACall.le (dl (DV.l ha) (dl (DV.z hb) dl0)) AV.le.rfl ?_
  refine acallN hTT 30 [.tmp 4] Try.func61 rfl rfl rfl rfl rfl ?_
  refine cSeq ?_
  refine cReg ?_
  refine mN hTT (.box 28 ([.v (.bool s), lr L xs])) rfl rfl rfl ?_
  refine mV hTT _ rfl ?_
  refine mNil ?_
  refine tN ?_
  refine cSeq ?_
  refine cReg ?_
  refine mV hTT _ rfl ?_
  refine mV hTT (.d (.one (.v (.int .i64 (n : Int))))) rfl ?_
  refine mN hTT (.row 28 2 n (fun _ j => .v ((([Value.bool false, Value.slice none 0 0] : List Value)[j]?).getD undef))) (mkO (zl := (n : Int)) (zc := (n : Int)) (bts := 32) rfl rfl rfl rfl rfl (by omega) (by omega) rfl rfl rfl (by omega) (by omega) rfl) rfl rfl ?_
  refine mV hTT _ rfl ?_
  refine mNil ?_
  refine tN ?_
  refine cSeq ?_
  refine cSeq ?_
  refine cReg ?_
  refine mV hTT _ rfl ?_
  refine mV hTT (.d (.one (.v (.int .i64 (n : Int))))) rfl ?_
  refine mV hTT _ rfl ?_
  refine mNil ?_
  refine tN ?_
  refine cBlock ?_
  refine cLoop (ι := Nat) (fun (i : Nat) => ⟨30, [(3, .ptr 3 0), (11, .d (.one (.row 2 n (ael K fa)))), (12, .d (.one (.v (.int .i64 (n : Int))))), (13, .d (.one (.v (.int .i64 ((i : Nat) : Int))))), (5, .own 10)], [(3, .box 28 ([.v (.bool s), lr L xs])), (10, .row 28 2 n (zel M (upd (fdv c y) i)))]⟩) (fun (i : Nat) => i ≤ n) (fun (i : Nat) => n - i) 0 (Nat.zero_le _) (wk (sl := [(3, .ptr 3 0), (11, .d (.one (.row 2 n (ael K fa)))), (12, .d (.one (.v (.int .i64 (n : Int))))), (13, .d (.one (.v (.int .i64 ((0 : Nat) : Int))))), (5, .own 10)]) (hp := [(3, .box 28 ([.v (.bool s), lr L xs])), (10, .row 28 2 n (zel M (upd (fdv c y) 0)))]) rfl ⟨hs rfl, hs rfl, hs rfl, hs rfl, hs rfl, trivial⟩ ⟨ho rfl, ho' rfl (leo_zero (fun i _ => if_neg (Nat.not_lt_zero _))), trivial⟩ rfl) ?_
  rintro i hI
  have hi : i ≤ n := hI
  show AW Try.prog _ _ ⟨30, [(3, .ptr 3 0), (11, .d (.one (.row 2 n (ael K fa)))), (12, .d (.one (.v (.int .i64 (n : Int))))), (13, .d (.one (.v (.int .i64 ((i : Nat) : Int))))), (5, .own 10)], [(3, .box 28 ([.v (.bool s), lr L xs])), (10, .row 28 2 n (zel M (upd (fdv c y) i)))]⟩
  refine cSeq ?_
  refine cReg ?_
  refine mV hTT (.d (.one (.v (.bool (decide (((i : Nat) : Int) < (n : Int))))))) rfl ?_
  refine mNil ?_
  refine tN ?_
  refine cSeq ?_
  refine cCond rfl (fun hc1 => ?_) (fun hc1 => ?_)
  · skip
    refine cSkip ?_
    refine tN ?_
    refine cSeq ?_
    refine cBlock ?_
    refine cSeq ?_
    have hin : i < n := by have h0 := of_decide_eq_true hc1; omega
    refine cReg ?_
    refine mV hTT _ rfl ?_
    refine mV hTT (.d (.one (.at 2 ((ael K fa) i)))) (ixR (el := (ael K fa)) (z := ((i : Nat) : Int)) (n := n) rfl rfl rfl rfl rfl rfl (by omega) (by omega)) ?_
    refine mV hTT (.d (.agg ([.v (.bool ((fa i).1)), lr K ((fa i).2)]))) rfl ?_
    refine mN hTT (.box 28 ([.v (.bool false), .v (.slice none 0 0)])) rfl rfl rfl ?_
    refine mV hTT _ rfl ?_
    refine mS hTT 7 (.box 28 ([.v (.bool ((fa i).1)), lr K ((fa i).2)])) rfl ?_
    refine mNil ?_
    refine tN ?_
    refine cReg ?_
    refine mV hTT _ rfl ?_
    refine mV hTT _ rfl ?_
    refine mV hTT (.d (.agg ([.v (.bool ((fa i).1)), lr K ((fa i).2)]))) rfl ?_
    refine mV hTT (.d (.agg ([.v (.bool s), lr L xs]))) rfl ?_
    refine mC0 (aExact ⟨_, _, fun _ _ _ h => h, ea i (by omega)⟩ ⟨s, xs, fun _ _ _ h => h, hy0⟩ hy (hd i hin) (M := (max K 1 + 1)) (by omega) (by omega) (by omega)) rfl rfl rfl ?_
    refine mV hTT _ rfl ?_
    refine mV hTT _ rfl ?_
    refine mV hTT _ rfl ?_
    refine mV hTT (.eptr 10 2 i 0) (ixO (z := ((i : Nat) : Int)) (n := n) rfl rfl rfl rfl rfl rfl rfl (by omega) (by omega)) ?_
    refine mS hTT 10 (.row 28 2 n (fun p' q' => if p' = i then ((zn (max K 1 + 1) ((c i) / y))[q']?).getD (.v undef) else (zel M (upd (fdv c y) i)) p' q')) rfl ?_
    refine mNil ?_
    refine bN ?_
    refine tN ?_
    refine cReg ?_
    refine mV hTT (.d (.one (.v (.int .i64 (IntKind.i64.wrap (((i : Nat) : Int) + 1)))))) rfl ?_
    refine mV hTT _ rfl ?_
    refine mNil ?_
    exact ⟨(i + 1), by omega, by omega, wk (sl := [(3, .ptr 3 0), (11, .d (.one (.row 2 n (ael K fa)))), (12, .d (.one (.v (.int .i64 (n : Int))))), (13, .d (.one (.v (.int .i64 (((i + 1) : Nat) : Int))))), (5, .own 10)]) (hp := [(3, .box 28 ([.v (.bool s), lr L xs])), (10, .row 28 2 n (zel M (upd (fdv c y) (i + 1))))]) rfl ⟨hs rfl, hs rfl, hs rfl, hs' rfl (le_int (inc64 (by omega))), hs rfl, trivial⟩ ⟨ho rfl, ho' rfl (st_z (Nat.le_refl _) (by omega) (upd_self (c := fdv c y)) (fun p _ hp => upd_ne hp)), trivial⟩ rfl⟩
  · skip
    refine cExit ?_
    refine tE ?_
    refine tE ?_
    refine bE ?_
    refine tN ?_
    refine cSeq ?_
    have hie : n = i := by have h0 := of_decide_eq_false hc1; omega
    subst hie
    refine AW.wk (wkRow 10 rfl) ?_
    refine cView 5 (.d (.one (.row 2 n (zel M (fdv c y))))) rfl (le_one (prow_le (Nat.le_refl _) (fun i hi => if_pos hi))) ?_
    refine cReg ?_
    refine mV hTT _ rfl ?_
    refine mC0 (aPNorm (isp (K := M) (c := (fdv c y)) (fdv_z za)) (by omega) (by omega)) rfl rfl rfl ?_
    refine mV hTT _ rfl ?_
    refine mNil ?_
    refine tN ?_
    refine cRet ?_
    exact rQ rfl (AV.le.rfl)

set_option maxRecDepth 100000 in
set_option maxHeartbeats 4000000 in
theorem aCNorm {a b : Lf} {d : List Lf} {K M n m : Nat} {x y : Nat → Int} {D : Int} (ha : IsP a K n x) (hb : IsP b K m y) (hd : IsZ d K D) (hn : n ≤ 1000) (hm : m ≤ 1000) (hM : max K 2 + 1 ≤ M) (hMM : M ≤ 10000000) : ACall Try.prog 31 [.agg (a :: b :: d)] (.d (.agg (crv M n m (ov (nzD D) x) (ov (nzD D) y)))) := by
  obtain ⟨⟨fa, ha, ea⟩, za⟩ := ha
  obtain ⟨⟨fb, hb, eb⟩, zb⟩ := hb
  obtain ⟨s, xs, hd, hy0⟩ := hd
  refine ACall.le (dl (DV.g (ls_abd ha hb hd)) dl0) AV.le.rfl ?_
  have hdx := dg_le x n
  have hdy := dg_le y m
  refine acallN hTT 44 [.cell 2 30] Try.func31 rfl rfl rfl rfl rfl ?_
  refine cSeq ?_
  refine cReg ?_
  refine mN hTT (.box 30 ([.row 2 n (ael K fa)] ++ [.row 2 m (ael K fb)] ++ [.v (.bool s), lr K xs])) rfl rfl rfl ?_
  refine mN hTT (.box 30 ([.v (.slice none 0 0), .v (.slice none 0 0), .v (.bool false), .v (.slice none 0 0)])) rfl rfl rfl ?_
  refine mNil ?_
  refine tN ?_
  refine cSeq ?_
  refine cDrawK hTT 12 (by kernel_rfl) (by kernel_rfl) (by kernel_rfl) ?_
  refine .cons (OpS.V (.ptr 1 0) rfl) ?_
  refine .cons (OpS.V (.d (.one (.row 2 n (ael K fa)))) rfl) ?_
  refine .cons (OpS.C0 (aPNorm (⟨⟨fa, fun _ _ _ h => h, ea⟩, za⟩ : IsP (arow K n fa) K n x) (by omega) (by omega)) rfl rfl rfl) ?_
  refine .cons (OpS.V (.ptr 1 1) rfl) ?_
  refine .cons (OpS.V (.d (.one (.row 2 m (ael K fb)))) rfl) ?_
  refine .cons (OpS.C0 (aPNorm (⟨⟨fb, fun _ _ _ h => h, eb⟩, zb⟩ : IsP (arow K m fb) K m y) (by omega) (by omega)) rfl rfl rfl) ?_
  refine .cons (OpS.V (.ptr 1 2) rfl) ?_
  refine .cons (OpS.V (.d (.agg ([.v (.bool s), lr K xs]))) rfl) ?_
  refine .cons (OpS.C0 (aNorm ⟨s, xs, fun _ _ _ h => h, hy0⟩ (by omega)) rfl rfl rfl) ?_
  refine .cons (OpS.N (.box 28 ([.v (.bool false), .v (.slice none 0 0)])) rfl 5 rfl rfl) ?_
  refine .cons (OpS.V _ rfl) ?_
  refine .cons (OpS.V _ rfl) ?_
  refine .nil ?_
  refine mS hTT 5 (.box 28 (zn K D)) rfl ?_
  refine mNil ?_
  refine tN ?_
  refine cSeq ?_
  refine cSeq ?_
  refine cReg ?_
  refine mV hTT (.d (.agg (zn K D))) rfl ?_
  refine mC0 (aZero (isn K D)) rfl rfl rfl ?_
  refine mNil ?_
  refine tN ?_
  by_cases hD : D = 0
  · skip
    have hD' : (1 : Int) ≠ 0 := by decide
    have hnz : nzD D = 1 := if_pos hD
    refine cView 17 (.d (.one (.v (.bool true)))) rfl (le_bool (decide_eq_true hD)) ?_
    refine cT rfl ?_
    refine cReg ?_
    refine mC0 (aOf (n := 1) (by decide) (by decide)) rfl rfl rfl ?_
    refine mS hTT 5 (.box 28 (zn 2 1)) rfl ?_
    refine mNil ?_
    refine tN ?_
    refine cSeq ?_
    refine cReg ?_
    refine mV hTT (.d (.agg (zn 2 1))) rfl ?_
    refine mR hTT (.row 28 2 1 (fun i' j' => ((zn 2 1)[i' * 2 + j']?).getD (.v undef))) rfl rfl rfl ?_
    refine mV hTT _ rfl ?_
    refine mA2 hTT (id := 20) (n := 1) (m := (dg x n)) (el := (fun i' j' => ((zn 2 1)[i' * 2 + j']?).getD (.v undef))) (el2 := (zel K x)) rfl rfl rfl (by show (1 + (dg x n)) * 32 ≤ 140737488355328; omega) (by omega) rfl rfl rfl rfl rfl rfl rfl rfl rfl rfl rfl rfl ?_
    refine mV hTT _ rfl ?_
    refine mA2 hTT (id := 20) (n := (1 + (dg x n))) (m := (dg y m)) (el := (appEl 1 (fun i' j' => ((zn 2 1)[i' * 2 + j']?).getD (.v undef)) (zel K x))) (el2 := (zel K y)) rfl rfl rfl (by show ((1 + (dg x n)) + (dg y m)) * 32 ≤ 140737488355328; omega) (by omega) rfl rfl rfl rfl rfl rfl rfl rfl rfl rfl rfl rfl ?_
    refine AL.wk (wkRow 20 rfl) ?_
    refine mC0 (aGcd (isp_g (K := max K 2) (K1 := K) (K2 := K) (K3 := 2) (n := dg x n) (m := dg y m) (D := 1) (x := x) (y := y) (by omega) (by omega) (by omega) (dg_z zb)) (by omega) (by omega)) rfl rfl rfl ?_
    refine mView 25 (.d (.agg (zn (max K 2) (((gD 1 (dg x n) x (dg y m) y) : Nat) : Int)))) rfl (AV.le.rfl) ?_
    refine mN hTT (.box 28 ([.v (.bool false), .v (.slice none 0 0)])) rfl rfl rfl ?_
    refine mS hTT 6 (.box 28 (zn (max K 2) (((gD 1 (dg x n) x (dg y m) y) : Nat) : Int))) rfl ?_
    refine mNil ?_
    refine tN ?_
    refine cSeq ?_
    refine cSeq ?_
    refine cReg ?_
    refine mV hTT (.ptr 5 0) rfl ?_
    refine mV hTT (.d (.one (.v (.bool (decide ((1 : Int) < 0)))))) rfl ?_
    refine mNil ?_
    refine tN ?_
    refine cCond rfl (fun hc1 => ?_) (fun hc1 => ?_)
    · skip
      refine cReg ?_
      refine mV hTT (.d (.agg (zn (max K 2) (((gD 1 (dg x n) x (dg y m) y) : Nat) : Int)))) rfl ?_
      refine mC0 (aNeg (isz (max K 2) (((gD 1 (dg x n) x (dg y m) y) : Nat) : Int)) (by omega)) rfl rfl rfl ?_
      refine mS hTT 6 (.box 28 (zn (max K 2) (-(((gD 1 (dg x n) x (dg y m) y) : Nat) : Int)))) rfl ?_
      refine mNil ?_
      refine tN ?_
      refine cSeq ?_
      refine AW.wk (wk (sl := [(2, .ptr 2 0), (5, .ptr 5 0), (3, .d (.one (.row 2 (dg x n) (zel K x)))), (4, .d (.one (.row 2 (dg y m) (zel K y)))), (6, .ptr 6 0)]) (hp := [(1, .box 30 ([.row 2 n (ael K fa)] ++ [.row 2 m (ael K fb)] ++ [.v (.bool s), lr K xs])), (2, .box 30 ([.v (.slice none 0 0), .v (.slice none 0 0), .v (.bool false), .v (.slice none 0 0)])), (5, .box 28 (zn 2 1)), (6, .box 28 (zn (max K 2) (gS 1 (gD 1 (dg x n) x (dg y m) y))))]) rfl ⟨hs rfl, hs rfl, hs rfl, hs rfl, hs rfl, trivial⟩ ⟨ho rfl, ho rfl, ho rfl, ho' rfl (leo_zn (Nat.le_refl _) ((if_pos (of_decide_eq_true hc1)).symm)), trivial⟩ rfl) ?_
      refine cReg ?_
      refine mV hTT (.d (.agg (zn 2 1))) rfl ?_
      refine mV hTT (.d (.agg (zn (max K 2) (gS 1 (gD 1 (dg x n) x (dg y m) y))))) rfl ?_
      refine mC0 (aExact (isz 2 1) (isz (max K 2) (gS 1 (gD 1 (dg x n) x (dg y m) y))) (gS_ne (gD_pos hD')) (gS_dvd gD_D) (M := 3) (by decide) (by decide) (by omega)) rfl rfl rfl ?_
      refine mV hTT _ rfl ?_
      refine mV hTT _ rfl ?_
      refine mV hTT _ rfl ?_
      refine mS hTT 5 (.box 28 (zn 3 (1 / (gS 1 (gD 1 (dg x n) x (dg y m) y))))) rfl ?_
      refine mNil ?_
      refine tN ?_
      refine cSeq ?_
      refine cDrawK hTT 8 (by kernel_rfl) (by kernel_rfl) (by kernel_rfl) ?_
      refine .cons (OpS.V _ rfl) ?_
      refine .cons (OpS.V (.d (.agg (zn (max K 2) (gS 1 (gD 1 (dg x n) x (dg y m) y))))) rfl) ?_
      refine .cons (OpS.C0 (aCOver (isp (K := K) (c := x) (dg_z za)) (isz (max K 2) (gS 1 (gD 1 (dg x n) x (dg y m) y))) (gS_ne (gD_pos hD')) (fun i hi => gS_dvd (gD_x hi)) (by omega) (M := (max K 1 + 1)) (by omega) (by omega) (by omega)) rfl rfl rfl) ?_
      refine .cons (OpS.V _ rfl) ?_
      refine .cons (OpS.V (.d (.agg (zn (max K 2) (gS 1 (gD 1 (dg x n) x (dg y m) y))))) rfl) ?_
      refine .cons (OpS.C0 (aCOver (isp (K := K) (c := y) (dg_z zb)) (isz (max K 2) (gS 1 (gD 1 (dg x n) x (dg y m) y))) (gS_ne (gD_pos hD')) (fun i hi => gS_dvd (gD_y hi)) (by omega) (M := (max K 1 + 1)) (by omega) (by omega) (by omega)) rfl rfl rfl) ?_
      refine .cons (OpS.V (.d (.agg (zn 3 (1 / (gS 1 (gD 1 (dg x n) x (dg y m) y)))))) rfl) ?_
      refine .cons (OpS.V (.d (.agg ([.row 2 (dg (fdv x (gS 1 (gD 1 (dg x n) x (dg y m) y))) (dg x n)) (zel (max K 1 + 1) (fdv x (gS 1 (gD 1 (dg x n) x (dg y m) y))))] ++ [.row 2 (dg (fdv y (gS 1 (gD 1 (dg x n) x (dg y m) y))) (dg y m)) (zel (max K 1 + 1) (fdv y (gS 1 (gD 1 (dg x n) x (dg y m) y))))] ++ zn 3 (1 / (gS 1 (gD 1 (dg x n) x (dg y m) y)))))) rfl) ?_
      refine .nil ?_
      refine mS hTT 2 (.box 30 ([.row 2 (dg (fdv x (gS 1 (gD 1 (dg x n) x (dg y m) y))) (dg x n)) (zel (max K 1 + 1) (fdv x (gS 1 (gD 1 (dg x n) x (dg y m) y))))] ++ [.row 2 (dg (fdv y (gS 1 (gD 1 (dg x n) x (dg y m) y))) (dg y m)) (zel (max K 1 + 1) (fdv y (gS 1 (gD 1 (dg x n) x (dg y m) y))))] ++ zn 3 (1 / (gS 1 (gD 1 (dg x n) x (dg y m) y))))) rfl ?_
      refine mNil ?_
      refine tN ?_
      refine cRet ?_
      exact rQ rfl (by rw [hnz]; exact le_norm hD' (by omega) (by omega) (by omega))
    · skip
      refine cSkip ?_
      refine tN ?_
      refine cSeq ?_
      refine AW.wk (wk (sl := [(2, .ptr 2 0), (5, .ptr 5 0), (3, .d (.one (.row 2 (dg x n) (zel K x)))), (4, .d (.one (.row 2 (dg y m) (zel K y)))), (6, .ptr 6 0)]) (hp := [(1, .box 30 ([.row 2 n (ael K fa)] ++ [.row 2 m (ael K fb)] ++ [.v (.bool s), lr K xs])), (2, .box 30 ([.v (.slice none 0 0), .v (.slice none 0 0), .v (.bool false), .v (.slice none 0 0)])), (5, .box 28 (zn 2 1)), (6, .box 28 (zn (max K 2) (gS 1 (gD 1 (dg x n) x (dg y m) y))))]) rfl ⟨hs rfl, hs rfl, hs rfl, hs rfl, hs rfl, trivial⟩ ⟨ho rfl, ho rfl, ho rfl, ho' rfl (leo_zn (Nat.le_refl _) ((if_neg (of_decide_eq_false hc1)).symm)), trivial⟩ rfl) ?_
      refine cReg ?_
      refine mV hTT (.d (.agg (zn 2 1))) rfl ?_
      refine mV hTT (.d (.agg (zn (max K 2) (gS 1 (gD 1 (dg x n) x (dg y m) y))))) rfl ?_
      refine mC0 (aExact (isz 2 1) (isz (max K 2) (gS 1 (gD 1 (dg x n) x (dg y m) y))) (gS_ne (gD_pos hD')) (gS_dvd gD_D) (M := 3) (by decide) (by decide) (by omega)) rfl rfl rfl ?_
      refine mV hTT _ rfl ?_
      refine mV hTT _ rfl ?_
      refine mV hTT _ rfl ?_
      refine mS hTT 5 (.box 28 (zn 3 (1 / (gS 1 (gD 1 (dg x n) x (dg y m) y))))) rfl ?_
      refine mNil ?_
      refine tN ?_
      refine cSeq ?_
      refine cDrawK hTT 8 (by kernel_rfl) (by kernel_rfl) (by kernel_rfl) ?_
      refine .cons (OpS.V _ rfl) ?_
      refine .cons (OpS.V (.d (.agg (zn (max K 2) (gS 1 (gD 1 (dg x n) x (dg y m) y))))) rfl) ?_
      refine .cons (OpS.C0 (aCOver (isp (K := K) (c := x) (dg_z za)) (isz (max K 2) (gS 1 (gD 1 (dg x n) x (dg y m) y))) (gS_ne (gD_pos hD')) (fun i hi => gS_dvd (gD_x hi)) (by omega) (M := (max K 1 + 1)) (by omega) (by omega) (by omega)) rfl rfl rfl) ?_
      refine .cons (OpS.V _ rfl) ?_
      refine .cons (OpS.V (.d (.agg (zn (max K 2) (gS 1 (gD 1 (dg x n) x (dg y m) y))))) rfl) ?_
      refine .cons (OpS.C0 (aCOver (isp (K := K) (c := y) (dg_z zb)) (isz (max K 2) (gS 1 (gD 1 (dg x n) x (dg y m) y))) (gS_ne (gD_pos hD')) (fun i hi => gS_dvd (gD_y hi)) (by omega) (M := (max K 1 + 1)) (by omega) (by omega) (by omega)) rfl rfl rfl) ?_
      refine .cons (OpS.V (.d (.agg (zn 3 (1 / (gS 1 (gD 1 (dg x n) x (dg y m) y)))))) rfl) ?_
      refine .cons (OpS.V (.d (.agg ([.row 2 (dg (fdv x (gS 1 (gD 1 (dg x n) x (dg y m) y))) (dg x n)) (zel (max K 1 + 1) (fdv x (gS 1 (gD 1 (dg x n) x (dg y m) y))))] ++ [.row 2 (dg (fdv y (gS 1 (gD 1 (dg x n) x (dg y m) y))) (dg y m)) (zel (max K 1 + 1) (fdv y (gS 1 (gD 1 (dg x n) x (dg y m) y))))] ++ zn 3 (1 / (gS 1 (gD 1 (dg x n) x (dg y m) y)))))) rfl) ?_
      refine .nil ?_
      refine mS hTT 2 (.box 30 ([.row 2 (dg (fdv x (gS 1 (gD 1 (dg x n) x (dg y m) y))) (dg x n)) (zel (max K 1 + 1) (fdv x (gS 1 (gD 1 (dg x n) x (dg y m) y))))] ++ [.row 2 (dg (fdv y (gS 1 (gD 1 (dg x n) x (dg y m) y))) (dg y m)) (zel (max K 1 + 1) (fdv y (gS 1 (gD 1 (dg x n) x (dg y m) y))))] ++ zn 3 (1 / (gS 1 (gD 1 (dg x n) x (dg y m) y))))) rfl ?_
      refine mNil ?_
      refine tN ?_
      refine cRet ?_
      exact rQ rfl (by rw [hnz]; exact le_norm hD' (by omega) (by omega) (by omega))
  · skip
    have hD' : (D : Int) ≠ 0 := hD
    have hnz : nzD D = D := if_neg hD
    refine cView 17 (.d (.one (.v (.bool false)))) rfl (le_bool (decide_eq_false hD)) ?_
    refine cF rfl ?_
    refine cSkip ?_
    refine tN ?_
    refine cSeq ?_
    refine cReg ?_
    refine mV hTT (.d (.agg (zn K D))) rfl ?_
    refine mR hTT (.row 28 2 1 (fun i' j' => ((zn K D)[i' * 2 + j']?).getD (.v undef))) rfl rfl rfl ?_
    refine mV hTT _ rfl ?_
    refine mA2 hTT (id := 20) (n := 1) (m := (dg x n)) (el := (fun i' j' => ((zn K D)[i' * 2 + j']?).getD (.v undef))) (el2 := (zel K x)) rfl rfl rfl (by show (1 + (dg x n)) * 32 ≤ 140737488355328; omega) (by omega) rfl rfl rfl rfl rfl rfl rfl rfl rfl rfl rfl rfl ?_
    refine mV hTT _ rfl ?_
    refine mA2 hTT (id := 20) (n := (1 + (dg x n))) (m := (dg y m)) (el := (appEl 1 (fun i' j' => ((zn K D)[i' * 2 + j']?).getD (.v undef)) (zel K x))) (el2 := (zel K y)) rfl rfl rfl (by show ((1 + (dg x n)) + (dg y m)) * 32 ≤ 140737488355328; omega) (by omega) rfl rfl rfl rfl rfl rfl rfl rfl rfl rfl rfl rfl ?_
    refine AL.wk (wkRow 20 rfl) ?_
    refine mC0 (aGcd (isp_g (K := max K 2) (K1 := K) (K2 := K) (K3 := K) (n := dg x n) (m := dg y m) (D := D) (x := x) (y := y) (by omega) (by omega) (by omega) (dg_z zb)) (by omega) (by omega)) rfl rfl rfl ?_
    refine mView 25 (.d (.agg (zn (max K 2) (((gD D (dg x n) x (dg y m) y) : Nat) : Int)))) rfl (AV.le.rfl) ?_
    refine mN hTT (.box 28 ([.v (.bool false), .v (.slice none 0 0)])) rfl rfl rfl ?_
    refine mS hTT 6 (.box 28 (zn (max K 2) (((gD D (dg x n) x (dg y m) y) : Nat) : Int))) rfl ?_
    refine mNil ?_
    refine tN ?_
    refine cSeq ?_
    refine cSeq ?_
    refine cReg ?_
    refine mV hTT (.ptr 5 0) rfl ?_
    refine mV hTT (.d (.one (.v (.bool (decide (D < 0)))))) rfl ?_
    refine mNil ?_
    refine tN ?_
    refine cCond rfl (fun hc2 => ?_) (fun hc2 => ?_)
    · skip
      refine cReg ?_
      refine mV hTT (.d (.agg (zn (max K 2) (((gD D (dg x n) x (dg y m) y) : Nat) : Int)))) rfl ?_
      refine mC0 (aNeg (isz (max K 2) (((gD D (dg x n) x (dg y m) y) : Nat) : Int)) (by omega)) rfl rfl rfl ?_
      refine mS hTT 6 (.box 28 (zn (max K 2) (-(((gD D (dg x n) x (dg y m) y) : Nat) : Int)))) rfl ?_
      refine mNil ?_
      refine tN ?_
      refine cSeq ?_
      refine AW.wk (wk (sl := [(2, .ptr 2 0), (5, .ptr 5 0), (3, .d (.one (.row 2 (dg x n) (zel K x)))), (4, .d (.one (.row 2 (dg y m) (zel K y)))), (6, .ptr 6 0)]) (hp := [(1, .box 30 ([.row 2 n (ael K fa)] ++ [.row 2 m (ael K fb)] ++ [.v (.bool s), lr K xs])), (2, .box 30 ([.v (.slice none 0 0), .v (.slice none 0 0), .v (.bool false), .v (.slice none 0 0)])), (5, .box 28 (zn K D)), (6, .box 28 (zn (max K 2) (gS D (gD D (dg x n) x (dg y m) y))))]) rfl ⟨hs rfl, hs rfl, hs rfl, hs rfl, hs rfl, trivial⟩ ⟨ho rfl, ho rfl, ho rfl, ho' rfl (leo_zn (Nat.le_refl _) ((if_pos (of_decide_eq_true hc2)).symm)), trivial⟩ rfl) ?_
      refine cReg ?_
      refine mV hTT (.d (.agg (zn K D))) rfl ?_
      refine mV hTT (.d (.agg (zn (max K 2) (gS D (gD D (dg x n) x (dg y m) y))))) rfl ?_
      refine mC0 (aExact (isz K D) (isz (max K 2) (gS D (gD D (dg x n) x (dg y m) y))) (gS_ne (gD_pos hD')) (gS_dvd gD_D) (M := (max K 1 + 1)) (by omega) (by omega) (by omega)) rfl rfl rfl ?_
      refine mV hTT _ rfl ?_
      refine mV hTT _ rfl ?_
      refine mV hTT _ rfl ?_
      refine mS hTT 5 (.box 28 (zn (max K 1 + 1) (D / (gS D (gD D (dg x n) x (dg y m) y))))) rfl ?_
      refine mNil ?_
      refine tN ?_
      refine cSeq ?_
      refine cDrawK hTT 8 (by kernel_rfl) (by kernel_rfl) (by kernel_rfl) ?_
      refine .cons (OpS.V _ rfl) ?_
      refine .cons (OpS.V (.d (.agg (zn (max K 2) (gS D (gD D (dg x n) x (dg y m) y))))) rfl) ?_
      refine .cons (OpS.C0 (aCOver (isp (K := K) (c := x) (dg_z za)) (isz (max K 2) (gS D (gD D (dg x n) x (dg y m) y))) (gS_ne (gD_pos hD')) (fun i hi => gS_dvd (gD_x hi)) (by omega) (M := (max K 1 + 1)) (by omega) (by omega) (by omega)) rfl rfl rfl) ?_
      refine .cons (OpS.V _ rfl) ?_
      refine .cons (OpS.V (.d (.agg (zn (max K 2) (gS D (gD D (dg x n) x (dg y m) y))))) rfl) ?_
      refine .cons (OpS.C0 (aCOver (isp (K := K) (c := y) (dg_z zb)) (isz (max K 2) (gS D (gD D (dg x n) x (dg y m) y))) (gS_ne (gD_pos hD')) (fun i hi => gS_dvd (gD_y hi)) (by omega) (M := (max K 1 + 1)) (by omega) (by omega) (by omega)) rfl rfl rfl) ?_
      refine .cons (OpS.V (.d (.agg (zn (max K 1 + 1) (D / (gS D (gD D (dg x n) x (dg y m) y)))))) rfl) ?_
      refine .cons (OpS.V (.d (.agg ([.row 2 (dg (fdv x (gS D (gD D (dg x n) x (dg y m) y))) (dg x n)) (zel (max K 1 + 1) (fdv x (gS D (gD D (dg x n) x (dg y m) y))))] ++ [.row 2 (dg (fdv y (gS D (gD D (dg x n) x (dg y m) y))) (dg y m)) (zel (max K 1 + 1) (fdv y (gS D (gD D (dg x n) x (dg y m) y))))] ++ zn (max K 1 + 1) (D / (gS D (gD D (dg x n) x (dg y m) y)))))) rfl) ?_
      refine .nil ?_
      refine mS hTT 2 (.box 30 ([.row 2 (dg (fdv x (gS D (gD D (dg x n) x (dg y m) y))) (dg x n)) (zel (max K 1 + 1) (fdv x (gS D (gD D (dg x n) x (dg y m) y))))] ++ [.row 2 (dg (fdv y (gS D (gD D (dg x n) x (dg y m) y))) (dg y m)) (zel (max K 1 + 1) (fdv y (gS D (gD D (dg x n) x (dg y m) y))))] ++ zn (max K 1 + 1) (D / (gS D (gD D (dg x n) x (dg y m) y))))) rfl ?_
      refine mNil ?_
      refine tN ?_
      refine cRet ?_
      exact rQ rfl (by rw [hnz]; exact le_norm hD' (by omega) (by omega) (by omega))
    · skip
      refine cSkip ?_
      refine tN ?_
      refine cSeq ?_
      refine AW.wk (wk (sl := [(2, .ptr 2 0), (5, .ptr 5 0), (3, .d (.one (.row 2 (dg x n) (zel K x)))), (4, .d (.one (.row 2 (dg y m) (zel K y)))), (6, .ptr 6 0)]) (hp := [(1, .box 30 ([.row 2 n (ael K fa)] ++ [.row 2 m (ael K fb)] ++ [.v (.bool s), lr K xs])), (2, .box 30 ([.v (.slice none 0 0), .v (.slice none 0 0), .v (.bool false), .v (.slice none 0 0)])), (5, .box 28 (zn K D)), (6, .box 28 (zn (max K 2) (gS D (gD D (dg x n) x (dg y m) y))))]) rfl ⟨hs rfl, hs rfl, hs rfl, hs rfl, hs rfl, trivial⟩ ⟨ho rfl, ho rfl, ho rfl, ho' rfl (leo_zn (Nat.le_refl _) ((if_neg (of_decide_eq_false hc2)).symm)), trivial⟩ rfl) ?_
      refine cReg ?_
      refine mV hTT (.d (.agg (zn K D))) rfl ?_
      refine mV hTT (.d (.agg (zn (max K 2) (gS D (gD D (dg x n) x (dg y m) y))))) rfl ?_
      refine mC0 (aExact (isz K D) (isz (max K 2) (gS D (gD D (dg x n) x (dg y m) y))) (gS_ne (gD_pos hD')) (gS_dvd gD_D) (M := (max K 1 + 1)) (by omega) (by omega) (by omega)) rfl rfl rfl ?_
      refine mV hTT _ rfl ?_
      refine mV hTT _ rfl ?_
      refine mV hTT _ rfl ?_
      refine mS hTT 5 (.box 28 (zn (max K 1 + 1) (D / (gS D (gD D (dg x n) x (dg y m) y))))) rfl ?_
      refine mNil ?_
      refine tN ?_
      refine cSeq ?_
      refine cDrawK hTT 8 (by kernel_rfl) (by kernel_rfl) (by kernel_rfl) ?_
      refine .cons (OpS.V _ rfl) ?_
      refine .cons (OpS.V (.d (.agg (zn (max K 2) (gS D (gD D (dg x n) x (dg y m) y))))) rfl) ?_
      refine .cons (OpS.C0 (aCOver (isp (K := K) (c := x) (dg_z za)) (isz (max K 2) (gS D (gD D (dg x n) x (dg y m) y))) (gS_ne (gD_pos hD')) (fun i hi => gS_dvd (gD_x hi)) (by omega) (M := (max K 1 + 1)) (by omega) (by omega) (by omega)) rfl rfl rfl) ?_
      refine .cons (OpS.V _ rfl) ?_
      refine .cons (OpS.V (.d (.agg (zn (max K 2) (gS D (gD D (dg x n) x (dg y m) y))))) rfl) ?_
      refine .cons (OpS.C0 (aCOver (isp (K := K) (c := y) (dg_z zb)) (isz (max K 2) (gS D (gD D (dg x n) x (dg y m) y))) (gS_ne (gD_pos hD')) (fun i hi => gS_dvd (gD_y hi)) (by omega) (M := (max K 1 + 1)) (by omega) (by omega) (by omega)) rfl rfl rfl) ?_
      refine .cons (OpS.V (.d (.agg (zn (max K 1 + 1) (D / (gS D (gD D (dg x n) x (dg y m) y)))))) rfl) ?_
      refine .cons (OpS.V (.d (.agg ([.row 2 (dg (fdv x (gS D (gD D (dg x n) x (dg y m) y))) (dg x n)) (zel (max K 1 + 1) (fdv x (gS D (gD D (dg x n) x (dg y m) y))))] ++ [.row 2 (dg (fdv y (gS D (gD D (dg x n) x (dg y m) y))) (dg y m)) (zel (max K 1 + 1) (fdv y (gS D (gD D (dg x n) x (dg y m) y))))] ++ zn (max K 1 + 1) (D / (gS D (gD D (dg x n) x (dg y m) y)))))) rfl) ?_
      refine .nil ?_
      refine mS hTT 2 (.box 30 ([.row 2 (dg (fdv x (gS D (gD D (dg x n) x (dg y m) y))) (dg x n)) (zel (max K 1 + 1) (fdv x (gS D (gD D (dg x n) x (dg y m) y))))] ++ [.row 2 (dg (fdv y (gS D (gD D (dg x n) x (dg y m) y))) (dg y m)) (zel (max K 1 + 1) (fdv y (gS D (gD D (dg x n) x (dg y m) y))))] ++ zn (max K 1 + 1) (D / (gS D (gD D (dg x n) x (dg y m) y))))) rfl ?_
      refine mNil ?_
      refine tN ?_
      refine cRet ?_
      exact rQ rfl (by rw [hnz]; exact le_norm hD' (by omega) (by omega) (by omega))

theorem aCNormC {K M n m : Nat} {p q : Nat → Rat} (zp : ∀ i, n ≤ i → p i = 0) (zq : ∀ i, m ≤ i → q i = 0) (hn : n ≤ 1000) (hm : m ≤ 1000) (hM : max K 2 + 1 ≤ M) (hMM : M ≤ 10000000) : ACall Try.prog 31 [.agg (crv K n m p q)] (.d (.agg (crv M n m p q))) := by
  have h1 := dg_le p n
  have h2 := dg_le q m
  exact ACall.le (dl DV.same dl0) (le_crv (Nat.le_refl _) (ov_zz (nzD_ne _) (cX_z (dg_z zp))) (ov_zz (nzD_ne _) (cX_z (dg_z zq))) zp zq (ov_crL zp) (ov_crL2 zq)) (aCNorm (a := prow K (dg p n) (cX (crL n m p q) p)) (b := prow K (dg q m) (cX (crL n m p q) q)) (d := zn K (crL n m p q : Int)) (isp (cX_z (dg_z zp))) (isp (cX_z (dg_z zq))) (isz K _) (by omega) (by omega) hM hMM)
set_option maxRecDepth 100000 in
set_option maxHeartbeats 4000000 in
theorem aCMake {a b : Lf} {d : List Lf} {K M n m : Nat} {x y : Nat → Int} {D : Int} (ha : IsP a K n x) (hb : IsP b K m y) (hd : IsZ d K D) (hD : D ≠ 0) (hn : n ≤ 1000) (hm : m ≤ 1000) (hM : max K 2 + 1 ≤ M) (hMM : M ≤ 10000000) : ACall Try.prog 17 [.one a, .one b, .agg d] (.tup [.agg (crv M n m (ov D x) (ov D y)), .one (.v (.int .i64 0))]) := by
  obtain ⟨⟨fa, ha, ea⟩, za⟩ := ha
  obtain ⟨⟨fb, hb, eb⟩, zb⟩ := hb
  obtain ⟨s, xs, hd, hy0⟩ := hd
  refine ACall.le (dl (DV.l ha) (dl (DV.l hb) (dl (DV.z hd) dl0))) AV.le.rfl ?_
  refine acallN hTT 17 [.cell 6 30, .tmp 7] Try.func17 rfl rfl rfl rfl rfl ?_
  refine cSeq ?_
  refine cReg ?_
  refine mN hTT (.box 28 ([.v (.bool s), lr K xs])) rfl rfl rfl ?_
  refine mN hTT (.box 30 ([.v (.slice none 0 0), .v (.slice none 0 0), .v (.bool false), .v (.slice none 0 0)])) rfl rfl rfl ?_
  refine mV hTT _ rfl ?_
  refine mNil ?_
  refine tN ?_
  refine cSeq ?_
  refine cSeq ?_
  refine cReg ?_
  refine mV hTT (.d (.agg ([.v (.bool s), lr K xs]))) rfl ?_
  refine mC0 (aNorm ⟨s, xs, fun _ _ _ h => h, hy0⟩ (by omega)) rfl rfl rfl ?_
  refine mC0 (aZero (isn K D)) rfl rfl rfl ?_
  refine mNil ?_
  refine tN ?_
  refine cView 10 (.d (.one (.v (.bool false)))) rfl (le_bool (decide_eq_false hD)) ?_
  refine cF rfl ?_
  refine cSkip ?_
  refine tN ?_
  refine cSeq ?_
  refine cReg ?_
  refine mV hTT _ rfl ?_
  refine mV hTT _ rfl ?_
  refine mV hTT (.d (.agg ([.v (.bool s), lr K xs]))) rfl ?_
  refine mV hTT (.d (.agg ([.row 2 n (ael K fa)] ++ [.row 2 m (ael K fb)] ++ [.v (.bool s), lr K xs]))) rfl ?_
  refine mC0 (aCNorm (⟨⟨fa, fun _ _ _ h => h, ea⟩, za⟩ : IsP (arow K n fa) K n x) (⟨⟨fb, fun _ _ _ h => h, eb⟩, zb⟩ : IsP (arow K m fb) K m y) ⟨s, xs, fun _ _ _ h => h, hy0⟩ (M := (max K 2 + 1)) (by omega) (by omega) (by omega) (by omega)) rfl rfl rfl ?_
  refine mS hTT 6 (.box 30 (crv (max K 2 + 1) n m (ov (nzD D) x) (ov (nzD D) y))) rfl ?_
  refine mV hTT _ rfl ?_
  refine mNil ?_
  refine tN ?_
  refine cRet ?_
  exact rQ rfl (le_tup (dl (dle (le_crv (by omega) (ov_zz (nzD_ne _) za) (ov_zz (nzD_ne _) zb) (ov_zz hD za) (ov_zz hD zb) (fun i => by rw [show nzD D = D from if_neg hD]) (fun i => by rw [show nzD D = D from if_neg hD]))) (dl DV.same dl0)))

set_option maxRecDepth 100000 in
set_option maxHeartbeats 4000000 in
theorem aCOf {a b : Lf} {K M n m : Nat} {x y : Nat → Int} (ha : IsP a K n x) (hb : IsP b K m y) (hn : n ≤ 1000) (hm : m ≤ 1000) (hM : max K 2 + 1 ≤ M) (hMM : M ≤ 10000000) : ACall Try.prog 13 [.one a, .one b] (.d (.agg (crv M n m (rc x) (rc y)))) := by
  obtain ⟨⟨fa, ha, ea⟩, za⟩ := ha
  obtain ⟨⟨fb, hb, eb⟩, zb⟩ := hb
  refine ACall.le (dl (DV.l ha) (dl (DV.l hb) dl0)) AV.le.rfl ?_
  refine acallN hTT 9 [.cell 4 30] Try.func13 rfl rfl rfl rfl rfl ?_
  refine cSeq ?_
  refine cReg ?_
  refine mN hTT (.box 30 ([.v (.slice none 0 0), .v (.slice none 0 0), .v (.bool false), .v (.slice none 0 0)])) rfl rfl rfl ?_
  refine mNil ?_
  refine tN ?_
  refine cSeq ?_
  refine cReg ?_
  refine mV hTT _ rfl ?_
  refine mV hTT _ rfl ?_
  refine mV hTT (.d (.agg ([.row 2 n (ael K fa), .row 2 m (ael K fb), .v (.bool false), .v (.slice none 0 0)]))) rfl ?_
  refine mC0 (aCNorm (IsP.mono (L := (max K (max K 0))) (⟨⟨fa, fun _ _ _ h => h, ea⟩, za⟩ : IsP (arow K n fa) K n x) (by omega)) (IsP.mono (L := (max K (max K 0))) (⟨⟨fb, fun _ _ _ h => h, eb⟩, zb⟩ : IsP (arow K m fb) K m y) (by omega)) (IsZ.mono (L := (max K (max K 0))) isz_nil (by omega)) (M := (max (max K (max K 0)) 2 + 1)) (by omega) (by omega) (by omega) (by omega)) rfl rfl rfl ?_
  refine mS hTT 4 (.box 30 (crv (max (max K (max K 0)) 2 + 1) n m (ov (nzD (0 : Int)) x) (ov (nzD (0 : Int)) y))) rfl ?_
  refine mNil ?_
  refine tN ?_
  refine cRet ?_
  exact rQ rfl (le_crv (by omega) (ov_zz (nzD_ne _) za) (ov_zz (nzD_ne _) zb) (rc_z za) (rc_z zb) (ov_one x) (ov_one y))

def degC (n m : Nat) (p q : Nat → Rat) : Nat := max (max (dg p n) (dg q m)) 1 - 1
set_option maxRecDepth 100000 in
set_option maxHeartbeats 4000000 in
theorem aCDeg {K n m : Nat} {p q : Nat → Rat} (zp : ∀ i, n ≤ i → p i = 0) (zq : ∀ i, m ≤ i → q i = 0) (hn : n ≤ 1000) (hm : m ≤ 1000) (hK : K ≤ 1000000) : ACall Try.prog 21 [.agg (crv K n m p q)] (.d (.one (.v (.int .i64 ((degC n m p q : Nat) : Int))))) := by
  have hdp := dg_le p n
  have hdq := dg_le q m
  refine acallN hTT 12 [.tmp 2] Try.func21 rfl rfl rfl rfl rfl ?_
  refine cSeq ?_
  refine cReg ?_
  refine mN hTT (.box 30 (crv K n m p q)) rfl rfl rfl ?_
  refine mV hTT _ rfl ?_
  refine mNil ?_
  refine tN ?_
  refine cSeq ?_
  refine cReg ?_
  refine mV hTT (.d (.agg (crv K n m p q))) rfl ?_
  refine mC0 (aCNormC (K := K) (n := n) (m := m) (M := (max K 2 + 1)) zp zq (by omega) (by omega) (by omega) (by omega)) rfl rfl rfl ?_
  refine mS hTT 1 (.box 30 (crv (max K 2 + 1) n m p q)) rfl ?_
  refine mNil ?_
  refine tN ?_
  refine cSeq ?_
  refine cDrawK hTT 8 (by kernel_rfl) (by kernel_rfl) (by kernel_rfl) ?_
  refine .cons (OpS.V (.ptr 1 0) rfl) ?_
  refine .cons (OpS.V (.d (.one (.row 2 (dg p n) (zel (max K 2 + 1) (cX (crL n m p q) p))))) rfl) ?_
  refine .cons (OpS.C0 (aDeg (K := (max K 2 + 1)) (n := (dg p n)) (c := (cX (crL n m p q) p)) (by omega)) rfl rfl rfl) ?_
  refine .cons (OpS.V (.ptr 1 1) rfl) ?_
  refine .cons (OpS.V (.d (.one (.row 2 (dg q m) (zel (max K 2 + 1) (cX (crL n m p q) q))))) rfl) ?_
  refine .cons (OpS.C0 (aDeg (K := (max K 2 + 1)) (n := (dg q m)) (c := (cX (crL n m p q) q)) (by omega)) rfl rfl rfl) ?_
  refine .cons (OpS.V (.d (.one (.v (.int .i64 ((degC n m p q : Nat) : Int))))) (evi (by rw [if_pos rfl, if_pos rfl]; unfold degC; omega))) ?_
  refine .cons (OpS.V _ rfl) ?_
  refine .nil ?_
  refine mNil ?_
  refine tN ?_
  refine cRet ?_
  exact rQ rfl (AV.le.rfl)

set_option maxRecDepth 100000 in
set_option maxHeartbeats 4000000 in
theorem aSamePoly {K L n : Nat} {c : Nat → Int} (hn : n ≤ 1000000) (hK : K ≤ 100000000) (hL : L ≤ 100000000) : ACall Try.prog 47 [.one (prow K n c), .one (prow L n c)] (.d (.one (.v (.bool true)))) := by
  refine acallN hTT 27 [.tmp 4] Try.func47 rfl rfl rfl rfl rfl ?_
  refine cSeq ?_
  refine cReg ?_
  refine mV hTT _ rfl ?_
  refine mNil ?_
  refine tN ?_
  refine cSeq ?_
  refine cSeq ?_
  refine cReg ?_
  refine mV hTT _ rfl ?_
  refine mV hTT (.d (.one (.v (.int .i64 (n : Int))))) rfl ?_
  refine mV hTT _ rfl ?_
  refine mV hTT (.d (.one (.v (.int .i64 (n : Int))))) rfl ?_
  refine mV hTT (.d (.one (.v (.bool false)))) (evb (bne_self_eq_false _)) ?_
  refine mNil ?_
  refine tN ?_
  refine cF rfl ?_
  refine cSkip ?_
  refine tN ?_
  refine cSeq ?_
  refine cSeq ?_
  refine cReg ?_
  refine mV hTT _ rfl ?_
  refine mV hTT (.d (.one (.v (.int .i64 (n : Int))))) rfl ?_
  refine mV hTT _ rfl ?_
  refine mNil ?_
  refine tN ?_
  refine cBlock ?_
  refine cLoop (ι := Nat) (fun (i : Nat) => ⟨27, [(0, .d (.one (.row 2 n (zel K c)))), (1, .d (.one (.row 2 n (zel L c)))), (12, .d (.one (.v (.int .i64 (n : Int))))), (13, .d (.one (.v (.int .i64 ((i : Nat) : Int)))))], []⟩) (fun (i : Nat) => i ≤ n) (fun (i : Nat) => n - i) 0 (Nat.zero_le _) (wk (sl := [(0, .d (.one (.row 2 n (zel K c)))), (1, .d (.one (.row 2 n (zel L c)))), (12, .d (.one (.v (.int .i64 (n : Int))))), (13, .d (.one (.v (.int .i64 ((0 : Nat) : Int)))))]) (hp := []) rfl ⟨hs rfl, hs rfl, hs rfl, hs rfl, trivial⟩ trivial rfl) ?_
  rintro i hI
  have hi : i ≤ n := hI
  show AW Try.prog _ _ ⟨27, [(0, .d (.one (.row 2 n (zel K c)))), (1, .d (.one (.row 2 n (zel L c)))), (12, .d (.one (.v (.int .i64 (n : Int))))), (13, .d (.one (.v (.int .i64 ((i : Nat) : Int)))))], []⟩
  refine cSeq ?_
  refine cReg ?_
  refine mV hTT (.d (.one (.v (.bool (decide (((i : Nat) : Int) < (n : Int))))))) rfl ?_
  refine mNil ?_
  refine tN ?_
  refine cSeq ?_
  refine cCond rfl (fun hc1 => ?_) (fun hc1 => ?_)
  · skip
    refine cSkip ?_
    refine tN ?_
    refine cSeq ?_
    refine cBlock ?_
    refine cSeq ?_
    have hin : i < n := by have h0 := of_decide_eq_true hc1; omega
    refine cReg ?_
    refine mV hTT _ rfl ?_
    refine mV hTT _ rfl ?_
    refine mNil ?_
    refine tN ?_
    refine cSeq ?_
    refine cDrawK hTT 10 (by kernel_rfl) (by kernel_rfl) (by kernel_rfl) ?_
    refine .cons (OpS.V _ rfl) ?_
    refine .cons (OpS.V _ rfl) ?_
    refine .cons (OpS.V (.d (.one (.at 2 ((zel K c) i)))) (ixR (el := (zel K c)) (z := ((i : Nat) : Int)) (n := n) rfl rfl rfl rfl rfl rfl (by omega) (by omega))) ?_
    refine .cons (OpS.V (.d (.agg (zn K (c i)))) rfl) ?_
    refine .cons (OpS.V _ rfl) ?_
    refine .cons (OpS.V _ rfl) ?_
    refine .cons (OpS.V (.d (.one (.at 2 ((zel L c) i)))) (ixR (el := (zel L c)) (z := ((i : Nat) : Int)) (n := n) rfl rfl rfl rfl rfl rfl (by omega) (by omega))) ?_
    refine .cons (OpS.V (.d (.agg (zn L (c i)))) rfl) ?_
    refine .cons (OpS.C0 (aSameZ (K := K) (L := L) (x := (c i)) (y := (c i)) rfl (by omega) (by omega)) rfl rfl rfl) ?_
    refine .cons (OpS.V (.d (.one (.v (.bool false)))) rfl) ?_
    refine .nil ?_
    refine mNil ?_
    refine tN ?_
    refine cF rfl ?_
    refine cSkip ?_
    refine bN ?_
    refine tN ?_
    refine cReg ?_
    refine mV hTT (.d (.one (.v (.int .i64 (IntKind.i64.wrap (((i : Nat) : Int) + 1)))))) rfl ?_
    refine mV hTT _ rfl ?_
    refine mNil ?_
    exact ⟨(i + 1), by omega, by omega, wk (sl := [(0, .d (.one (.row 2 n (zel K c)))), (1, .d (.one (.row 2 n (zel L c)))), (12, .d (.one (.v (.int .i64 (n : Int))))), (13, .d (.one (.v (.int .i64 (((i + 1) : Nat) : Int)))))]) (hp := []) rfl ⟨hs rfl, hs rfl, hs rfl, hs' rfl (le_int (inc64 (by omega))), trivial⟩ trivial rfl⟩
  · skip
    refine cExit ?_
    refine tE ?_
    refine tE ?_
    refine bE ?_
    refine tN ?_
    refine cSeq ?_
    refine cReg ?_
    refine mV hTT _ rfl ?_
    refine mNil ?_
    refine tN ?_
    refine cRet ?_
    exact rQ rfl (AV.le.rfl)

set_option maxRecDepth 100000 in
set_option maxHeartbeats 4000000 in
theorem aSameCurve {K L n m : Nat} {p q : Nat → Rat} (hn : n ≤ 1000000) (hm : m ≤ 1000000) (hK : K ≤ 100000000) (hL : L ≤ 100000000) : ACall Try.prog 20 [.agg (crv K n m p q), .agg (crv L n m p q)] (.d (.one (.v (.bool true)))) := by
  have hdp := dg_le p n
  have hdq := dg_le q m
  refine acallN hTT 24 [.tmp 4] Try.func20 rfl rfl rfl rfl rfl ?_
  refine cSeq ?_
  refine cReg ?_
  refine mN hTT (.box 30 (crv K n m p q)) rfl rfl rfl ?_
  refine mN hTT (.box 30 (crv L n m p q)) rfl rfl rfl ?_
  refine mV hTT _ rfl ?_
  refine mNil ?_
  refine tN ?_
  refine cSeq ?_
  refine cReg ?_
  refine mV hTT (.ptr 2 0) rfl ?_
  refine mV hTT (.d (.one (.row 2 (dg p n) (zel K (cX (crL n m p q) p))))) rfl ?_
  refine mV hTT (.ptr 3 0) rfl ?_
  refine mV hTT (.d (.one (.row 2 (dg p n) (zel L (cX (crL n m p q) p))))) rfl ?_
  refine mC0 (aSamePoly (K := K) (L := L) (n := (dg p n)) (c := (cX (crL n m p q) p)) (by omega) (by omega) (by omega)) rfl rfl rfl ?_
  refine mV hTT _ rfl ?_
  refine mV hTT (.ptr 2 1) rfl ?_
  refine mV hTT (.d (.one (.row 2 (dg q m) (zel K (cX (crL n m p q) q))))) rfl ?_
  refine mV hTT (.ptr 3 1) rfl ?_
  refine mV hTT (.d (.one (.row 2 (dg q m) (zel L (cX (crL n m p q) q))))) rfl ?_
  refine mC0 (aSamePoly (K := K) (L := L) (n := (dg q m)) (c := (cX (crL n m p q) q)) (by omega) (by omega) (by omega)) rfl rfl rfl ?_
  refine mV hTT _ rfl ?_
  refine mV hTT _ rfl ?_
  refine mV hTT (.ptr 2 2) rfl ?_
  refine mV hTT (.d (.agg (zn K ((crL n m p q) : Int)))) rfl ?_
  refine mV hTT (.ptr 3 2) rfl ?_
  refine mV hTT (.d (.agg (zn L ((crL n m p q) : Int)))) rfl ?_
  refine mC0 (aSameZ (K := K) (L := L) (x := ((crL n m p q) : Int)) (y := ((crL n m p q) : Int)) rfl (by omega) (by omega)) rfl rfl rfl ?_
  refine mV hTT _ rfl ?_
  refine mV hTT _ rfl ?_
  refine mNil ?_
  refine tN ?_
  refine cRet ?_
  exact rQ rfl (AV.le.rfl)

end Go.Proofs.Ytcnfblffeghboaa

/-
  CURVES, by the machine (2): Rebase; the plain reckoning's; law12's helps.
-/
set_option linter.unusedVariables false
set_option linter.unusedSimpArgs false
namespace Go.Proofs.Ytcnfblffeghboaa
open Go.RowKit

set_option maxRecDepth 100000 in
set_option maxHeartbeats 4000000 in
theorem aCRebase {a b : Lf} {t : List Lf} {K L M n m : Nat} {x y : Nat → Int} {u v : Int} (ha : IsP a K n x) (hb : IsP b K m y) (ht : IsT t L u v) (hn : n ≤ 6) (hm : m ≤ 6) (hM : 7 * (K + 4 * (max L 2 + 1) + 9000) + 2 + 5 * (max L 2 + 1) + 1 ≤ M) (hMM : M ≤ 10000000) : ACall Try.prog 14 [.one a, .one b, .agg t] (.d (.agg (crv M (dg x n) (dg y m) (shf (rc x) (dg x n) (-(mkR u v))) (shf (rc y) (dg y m) (-(mkR u v)))))) := by
  obtain ⟨⟨fa, ha, ea⟩, za⟩ := ha
  obtain ⟨⟨fb, hb, eb⟩, zb⟩ := hb
  obtain ⟨s0, xs0, t0, ys0, ht, e0, k0⟩ := ht
  refine ACall.le (dl (DV.l ha) (dl (DV.l hb) (dl (DV.g ht) dl0))) AV.le.rfl ?_
  have hdx := dg_le x n
  have hdy := dg_le y m
  have hdx2 := dg_le x (dg x n)
  have hdy2 := dg_le y (dg y m)
  obtain ⟨T, hT⟩ : ∃ T, T = K + 4 * (max L 2 + 1) + 9000 := ⟨_, rfl⟩
  obtain ⟨P, hP⟩ : ∃ P, P = 2 + 5 * (max L 2 + 1) := ⟨_, rfl⟩
  have hPj : ∀ j, j ≤ 5 → 2 + j * (max L 2 + 1) ≤ P := fun j hj => by have := Nat.mul_le_mul_right (max L 2 + 1) hj; omega
  have hden : ¬ (Rat.den (-(mkR u v)) : Int) = 0 := den_ne _
  have hm1 := dg_le (mvZ x (Rat.num (-(mkR u v))) (Rat.den (-(mkR u v)) : Int) (dg x (dg x n)) (dg x (dg x n))) (dg x (dg x n) + 1)
  have hm2 := dg_le (mvZ y (Rat.num (-(mkR u v))) (Rat.den (-(mkR u v)) : Int) (dg y (dg y m)) (dg y (dg y m))) (dg y (dg y m) + 1)
  refine acallN hTT 69 [.cell 6 30] Try.func14 rfl rfl rfl rfl rfl ?_
  refine cSeq ?_
  refine cReg ?_
  refine mN hTT (.box 52 ([.v (.bool s0), lr L xs0] ++ [.v (.bool t0), lr L ys0])) rfl rfl rfl ?_
  refine mN hTT (.box 30 ([.v (.slice none 0 0), .v (.slice none 0 0), .v (.bool false), .v (.slice none 0 0)])) rfl rfl rfl ?_
  refine mNil ?_
  refine tN ?_
  refine cSeq ?_
  refine cDrawK hTT 8 (by kernel_rfl) (by kernel_rfl) (by kernel_rfl) ?_
  refine .cons (OpS.V _ rfl) ?_
  refine .cons (OpS.C0 (aPNorm (⟨⟨fa, fun _ _ _ h => h, ea⟩, za⟩ : IsP (arow K n fa) K n x) (by omega) (by omega)) rfl rfl rfl) ?_
  refine .cons (OpS.V _ rfl) ?_
  refine .cons (OpS.C0 (aPNorm (⟨⟨fb, fun _ _ _ h => h, eb⟩, zb⟩ : IsP (arow K m fb) K m y) (by omega) (by omega)) rfl rfl rfl) ?_
  refine .cons (OpS.V (.d (.agg ([.v (.bool s0), lr L xs0] ++ [.v (.bool t0), lr L ys0]))) rfl) ?_
  refine .cons (OpS.C0 (aTNeg (⟨s0, xs0, t0, ys0, fun _ _ _ h => h, e0, k0⟩ : IsT ([.v (.bool s0), lr L xs0] ++ [.v (.bool t0), lr L ys0]) L u v) (M := (max L 2 + 1)) (by omega) (by omega)) rfl rfl rfl) ?_
  refine .cons (OpS.V _ rfl) ?_
  refine .cons (OpS.V _ rfl) ?_
  refine .nil ?_
  refine mS hTT 5 (.box 52 (tn (max L 2 + 1) (-(mkR u v)))) rfl ?_
  refine mNil ?_
  refine tN ?_
  refine cSeq ?_
  refine cReg ?_
  refine mV hTT _ rfl ?_
  refine mV hTT (.ptr 5 0) rfl ?_
  refine mV hTT (.d (.agg (zn (max L 2 + 1) (Rat.num (-(mkR u v)))))) rfl ?_
  refine mV hTT (.ptr 5 2) rfl ?_
  refine mV hTT (.d (.agg (zn (max L 2 + 1) (Rat.den (-(mkR u v)) : Int)))) rfl ?_
  refine mC0 (aPMove (isp (K := K) (c := x) (dg_z za)) (isz (max L 2 + 1) (Rat.num (-(mkR u v)))) (isz (max L 2 + 1) (Rat.den (-(mkR u v)) : Int)) (D := 6) (T := T) (M := (7 * T)) hden (by omega) (by decide) (by omega) (by omega) (by omega)) rfl rfl rfl ?_
  refine mV hTT _ rfl ?_
  refine mV hTT _ rfl ?_
  refine mV hTT _ rfl ?_
  refine mV hTT _ rfl ?_
  refine mV hTT _ rfl ?_
  refine mNil ?_
  refine tN ?_
  refine cSeq ?_
  refine cReg ?_
  refine mV hTT _ rfl ?_
  refine mV hTT (.ptr 5 0) rfl ?_
  refine mV hTT (.d (.agg (zn (max L 2 + 1) (Rat.num (-(mkR u v)))))) rfl ?_
  refine mV hTT (.ptr 5 2) rfl ?_
  refine mV hTT (.d (.agg (zn (max L 2 + 1) (Rat.den (-(mkR u v)) : Int)))) rfl ?_
  refine mC0 (aPMove (isp (K := K) (c := y) (dg_z zb)) (isz (max L 2 + 1) (Rat.num (-(mkR u v)))) (isz (max L 2 + 1) (Rat.den (-(mkR u v)) : Int)) (D := 6) (T := T) (M := (7 * T)) hden (by omega) (by decide) (by omega) (by omega) (by omega)) rfl rfl rfl ?_
  refine mV hTT _ rfl ?_
  refine mV hTT _ rfl ?_
  refine mV hTT _ rfl ?_
  refine mV hTT _ rfl ?_
  refine mV hTT _ rfl ?_
  refine mNil ?_
  refine tN ?_
  refine cSeq ?_
  refine cReg ?_
  refine mV hTT _ rfl ?_
  refine mC0 (aDeg (K := K) (n := (dg x n)) (c := x) (by omega)) rfl rfl rfl ?_
  refine mV hTT (.d (.one (.v (.int .i64 ((dg x n - 1 : Nat) : Int))))) (evi (by rw [if_pos rfl]; split <;> omega)) ?_
  refine mV hTT _ rfl ?_
  refine mC0 (aDeg (K := K) (n := (dg y m)) (c := y) (by omega)) rfl rfl rfl ?_
  refine mV hTT (.d (.one (.v (.int .i64 ((dg y m - 1 : Nat) : Int))))) (evi (by rw [if_pos rfl]; split <;> omega)) ?_
  refine mV hTT _ rfl ?_
  refine mV hTT _ rfl ?_
  refine mNil ?_
  refine tN ?_
  refine cSeq ?_
  refine cReg ?_
  refine mV hTT _ rfl ?_
  refine mV hTT _ rfl ?_
  refine mV hTT (.d (.one (.v (.int .i64 (((max (dg x n - 1) (dg y m - 1)) : Nat) : Int))))) (evi (by rw [if_pos rfl]; split <;> omega)) ?_
  refine mV hTT _ rfl ?_
  refine mNil ?_
  refine tN ?_
  refine cSeq ?_
  have hs1 := dg_le (fscl (mvZ x (Rat.num (-(mkR u v))) (Rat.den (-(mkR u v)) : Int) (dg x (dg x n)) (dg x (dg x n))) ((Rat.den (-(mkR u v)) : Int) ^ ((((max (dg x n - 1) (dg y m - 1)) - (dg x n - 1) : Nat) : Int)).toNat)) (dg (mvZ x (Rat.num (-(mkR u v))) (Rat.den (-(mkR u v)) : Int) (dg x (dg x n)) (dg x (dg x n))) (dg x (dg x n) + 1))
  have hs2 := dg_le (fscl (mvZ y (Rat.num (-(mkR u v))) (Rat.den (-(mkR u v)) : Int) (dg y (dg y m)) (dg y (dg y m))) ((Rat.den (-(mkR u v)) : Int) ^ ((((max (dg x n - 1) (dg y m - 1)) - (dg y m - 1) : Nat) : Int)).toNat)) (dg (mvZ y (Rat.num (-(mkR u v))) (Rat.den (-(mkR u v)) : Int) (dg y (dg y m)) (dg y (dg y m))) (dg y (dg y m) + 1))
  refine cDrawK hTT 22 (by kernel_rfl) (by kernel_rfl) (by kernel_rfl) ?_
  refine .cons (OpS.V _ rfl) ?_
  refine .cons (OpS.V (.ptr 5 2) rfl) ?_
  refine .cons (OpS.V (.d (.agg (zn (max L 2 + 1) (Rat.den (-(mkR u v)) : Int)))) rfl) ?_
  refine .cons (OpS.V _ rfl) ?_
  refine .cons (OpS.V _ rfl) ?_
  refine .cons (OpS.V (.d (.one (.v (.int .i64 (((max (dg x n - 1) (dg y m - 1)) - (dg x n - 1) : Nat) : Int))))) (evi ((wr64 (by omega) (by omega)).trans (by omega)))) ?_
  refine .cons (OpS.C0 (aPow (isz (max L 2 + 1) (Rat.den (-(mkR u v)) : Int)) (k := (((max (dg x n - 1) (dg y m - 1)) - (dg x n - 1) : Nat) : Int)) (M := P) (by omega) (by omega) (hPj _ (by omega)) (by omega)) rfl rfl rfl) ?_
  refine .cons (OpS.C0 (aPScale (isp (K := (7 * T)) (c := (mvZ x (Rat.num (-(mkR u v))) (Rat.den (-(mkR u v)) : Int) (dg x (dg x n)) (dg x (dg x n)))) (dg_z fun j hj => mvZ_z _ j (by omega))) (isz P ((Rat.den (-(mkR u v)) : Int) ^ ((((max (dg x n - 1) (dg y m - 1)) - (dg x n - 1) : Nat) : Int)).toNat)) (M := ((7 * T) + P)) (by omega) (by omega) (by omega)) rfl rfl rfl) ?_
  refine .cons (OpS.V _ rfl) ?_
  refine .cons (OpS.V (.ptr 5 2) rfl) ?_
  refine .cons (OpS.V (.d (.agg (zn (max L 2 + 1) (Rat.den (-(mkR u v)) : Int)))) rfl) ?_
  refine .cons (OpS.V _ rfl) ?_
  refine .cons (OpS.V _ rfl) ?_
  refine .cons (OpS.V (.d (.one (.v (.int .i64 (((max (dg x n - 1) (dg y m - 1)) - (dg y m - 1) : Nat) : Int))))) (evi ((wr64 (by omega) (by omega)).trans (by omega)))) ?_
  refine .cons (OpS.C0 (aPow (isz (max L 2 + 1) (Rat.den (-(mkR u v)) : Int)) (k := (((max (dg x n - 1) (dg y m - 1)) - (dg y m - 1) : Nat) : Int)) (M := P) (by omega) (by omega) (hPj _ (by omega)) (by omega)) rfl rfl rfl) ?_
  refine .cons (OpS.C0 (aPScale (isp (K := (7 * T)) (c := (mvZ y (Rat.num (-(mkR u v))) (Rat.den (-(mkR u v)) : Int) (dg y (dg y m)) (dg y (dg y m)))) (dg_z fun j hj => mvZ_z _ j (by omega))) (isz P ((Rat.den (-(mkR u v)) : Int) ^ ((((max (dg x n - 1) (dg y m - 1)) - (dg y m - 1) : Nat) : Int)).toNat)) (M := ((7 * T) + P)) (by omega) (by omega) (by omega)) rfl rfl rfl) ?_
  refine .cons (OpS.V (.ptr 5 2) rfl) ?_
  refine .cons (OpS.V (.d (.agg (zn (max L 2 + 1) (Rat.den (-(mkR u v)) : Int)))) rfl) ?_
  refine .cons (OpS.V _ rfl) ?_
  refine .cons (OpS.C0 (aPow (isz (max L 2 + 1) (Rat.den (-(mkR u v)) : Int)) (k := (((max (dg x n - 1) (dg y m - 1)) : Nat) : Int)) (M := P) (by omega) (by omega) (hPj _ (by omega)) (by omega)) rfl rfl rfl) ?_
  refine .cons (OpS.V (.d (.agg ([.row 2 (dg (fscl (mvZ x (Rat.num (-(mkR u v))) (Rat.den (-(mkR u v)) : Int) (dg x (dg x n)) (dg x (dg x n))) ((Rat.den (-(mkR u v)) : Int) ^ ((((max (dg x n - 1) (dg y m - 1)) - (dg x n - 1) : Nat) : Int)).toNat)) (dg (mvZ x (Rat.num (-(mkR u v))) (Rat.den (-(mkR u v)) : Int) (dg x (dg x n)) (dg x (dg x n))) (dg x (dg x n) + 1))) (zel ((7 * T) + P) (fscl (mvZ x (Rat.num (-(mkR u v))) (Rat.den (-(mkR u v)) : Int) (dg x (dg x n)) (dg x (dg x n))) ((Rat.den (-(mkR u v)) : Int) ^ ((((max (dg x n - 1) (dg y m - 1)) - (dg x n - 1) : Nat) : Int)).toNat)))] ++ [.row 2 (dg (fscl (mvZ y (Rat.num (-(mkR u v))) (Rat.den (-(mkR u v)) : Int) (dg y (dg y m)) (dg y (dg y m))) ((Rat.den (-(mkR u v)) : Int) ^ ((((max (dg x n - 1) (dg y m - 1)) - (dg y m - 1) : Nat) : Int)).toNat)) (dg (mvZ y (Rat.num (-(mkR u v))) (Rat.den (-(mkR u v)) : Int) (dg y (dg y m)) (dg y (dg y m))) (dg y (dg y m) + 1))) (zel ((7 * T) + P) (fscl (mvZ y (Rat.num (-(mkR u v))) (Rat.den (-(mkR u v)) : Int) (dg y (dg y m)) (dg y (dg y m))) ((Rat.den (-(mkR u v)) : Int) ^ ((((max (dg x n - 1) (dg y m - 1)) - (dg y m - 1) : Nat) : Int)).toNat)))] ++ zn P ((Rat.den (-(mkR u v)) : Int) ^ ((((max (dg x n - 1) (dg y m - 1)) : Nat) : Int)).toNat)))) rfl) ?_
  refine .cons (OpS.C0 (aCNorm (IsP.mono (L := (max ((7 * T) + P) (max ((7 * T) + P) P))) (isp (K := ((7 * T) + P)) (c := (fscl (mvZ x (Rat.num (-(mkR u v))) (Rat.den (-(mkR u v)) : Int) (dg x (dg x n)) (dg x (dg x n))) ((Rat.den (-(mkR u v)) : Int) ^ ((((max (dg x n - 1) (dg y m - 1)) - (dg x n - 1) : Nat) : Int)).toNat))) (dg_z (fscl_z (dg_z fun j hj => mvZ_z _ j (by omega))))) (by omega)) (IsP.mono (L := (max ((7 * T) + P) (max ((7 * T) + P) P))) (isp (K := ((7 * T) + P)) (c := (fscl (mvZ y (Rat.num (-(mkR u v))) (Rat.den (-(mkR u v)) : Int) (dg y (dg y m)) (dg y (dg y m))) ((Rat.den (-(mkR u v)) : Int) ^ ((((max (dg x n - 1) (dg y m - 1)) - (dg y m - 1) : Nat) : Int)).toNat))) (dg_z (fscl_z (dg_z fun j hj => mvZ_z _ j (by omega))))) (by omega)) (IsZ.mono (L := (max ((7 * T) + P) (max ((7 * T) + P) P))) (isz P ((Rat.den (-(mkR u v)) : Int) ^ ((((max (dg x n - 1) (dg y m - 1)) : Nat) : Int)).toNat)) (by omega)) (M := (max (max ((7 * T) + P) (max ((7 * T) + P) P)) 2 + 1)) (by omega) (by omega) (by omega) (by omega)) rfl rfl rfl) ?_
  refine .nil ?_
  refine mS hTT 6 (.box 30 (crv (max (max ((7 * T) + P) (max ((7 * T) + P) P)) 2 + 1) (dg (fscl (mvZ x (Rat.num (-(mkR u v))) (Rat.den (-(mkR u v)) : Int) (dg x (dg x n)) (dg x (dg x n))) ((Rat.den (-(mkR u v)) : Int) ^ ((((max (dg x n - 1) (dg y m - 1)) - (dg x n - 1) : Nat) : Int)).toNat)) (dg (mvZ x (Rat.num (-(mkR u v))) (Rat.den (-(mkR u v)) : Int) (dg x (dg x n)) (dg x (dg x n))) (dg x (dg x n) + 1))) (dg (fscl (mvZ y (Rat.num (-(mkR u v))) (Rat.den (-(mkR u v)) : Int) (dg y (dg y m)) (dg y (dg y m))) ((Rat.den (-(mkR u v)) : Int) ^ ((((max (dg x n - 1) (dg y m - 1)) - (dg y m - 1) : Nat) : Int)).toNat)) (dg (mvZ y (Rat.num (-(mkR u v))) (Rat.den (-(mkR u v)) : Int) (dg y (dg y m)) (dg y (dg y m))) (dg y (dg y m) + 1))) (ov (nzD ((Rat.den (-(mkR u v)) : Int) ^ ((((max (dg x n - 1) (dg y m - 1)) : Nat) : Int)).toNat)) (fscl (mvZ x (Rat.num (-(mkR u v))) (Rat.den (-(mkR u v)) : Int) (dg x (dg x n)) (dg x (dg x n))) ((Rat.den (-(mkR u v)) : Int) ^ ((((max (dg x n - 1) (dg y m - 1)) - (dg x n - 1) : Nat) : Int)).toNat))) (ov (nzD ((Rat.den (-(mkR u v)) : Int) ^ ((((max (dg x n - 1) (dg y m - 1)) : Nat) : Int)).toNat)) (fscl (mvZ y (Rat.num (-(mkR u v))) (Rat.den (-(mkR u v)) : Int) (dg y (dg y m)) (dg y (dg y m))) ((Rat.den (-(mkR u v)) : Int) ^ ((((max (dg x n - 1) (dg y m - 1)) - (dg y m - 1) : Nat) : Int)).toNat))))) rfl ?_
  refine mNil ?_
  refine tN ?_
  refine cRet ?_
  exact rQ rfl (le_crv (by omega) (ov_zz (nzD_ne _) (dg_z (fscl_z (dg_z fun j hj => mvZ_z _ j (by omega))))) (ov_zz (nzD_ne _) (dg_z (fscl_z (dg_z fun j hj => mvZ_z _ j (by omega))))) shf_z shf_z (fun i => by have h := mv_ov (x := x) (u := (Rat.num (-(mkR u v)))) (y := (Rat.den (-(mkR u v)) : Int)) (n := (dg x n)) (k := (max (dg x n - 1) (dg y m - 1))) hden (by omega) i; rw [mkR_self] at h; rw [dg_dg]; exact h) (fun i => by have h := mv_ov (x := y) (u := (Rat.num (-(mkR u v)))) (y := (Rat.den (-(mkR u v)) : Int)) (n := (dg y m)) (k := (max (dg x n - 1) (dg y m - 1))) hden (by omega) i; rw [mkR_self] at h; rw [dg_dg]; exact h))

theorem aCRebaseQ {a b : Lf} {K L M n m : Nat} {x y : Nat → Int} {q : Rat} (ha : IsP a K n x) (hb : IsP b K m y) (hn : n ≤ 6) (hm : m ≤ 6) (hM : 7 * (K + 4 * (max L 2 + 1) + 9000) + 2 + 5 * (max L 2 + 1) + 1 ≤ M) (hMM : M ≤ 10000000) : ACall Try.prog 14 [.one a, .one b, .agg (tn L q)] (.d (.agg (crv M (dg x n) (dg y m) (shf (rc x) (dg x n) (-q)) (shf (rc y) (dg y m) (-q))))) := by
  have h := aCRebase ha hb (ist_tn L q) hn hm hM hMM
  rw [mkR_self] at h
  exact h
end Go.Proofs.Ytcnfblffeghboaa

/-
  CURVES, by the machine (3): the plain reckoning's; law12's helps; the law CurveRebases.
-/
set_option linter.unusedVariables false
set_option linter.unusedSimpArgs false
namespace Go.Proofs.Ytcnfblffeghboaa
open Go.RowKit

def numF (c : Nat → Rat) : Nat → Int := fun i => (c i).num
theorem numF_z {c : Nat → Rat} {n : Nat} (h : ∀ i, n ≤ i → c i = 0) : ∀ i, n ≤ i → numF c i = 0 := fun i hi => by unfold numF; rw [h i hi]; rfl
theorem lcd_step {q : Nat → Rat} {i : Nat} : (((lcd q i : Nat) : Int) * ((q i).den : Int)) / ((Nat.gcd (Int.natAbs ((lcd q i : Nat) : Int)) (Int.natAbs ((q i).den : Int)) : Nat) : Int) = ((lcd q (i + 1) : Nat) : Int) := by
  show _ = (((lcd q i * (q i).den) / Nat.gcd (lcd q i) (q i).den : Nat) : Int)
  rw [Int.natCast_ediv, Int.natCast_mul]; rfl
theorem lcd_g {q : Nat → Rat} {i : Nat} : ((Nat.gcd (Int.natAbs ((lcd q i : Nat) : Int)) (Int.natAbs ((q i).den : Int)) : Nat) : Int) ≠ 0 := by
  have := Nat.gcd_pos_of_pos_left ((q i).den) (lcd_pos (q := q) i)
  intro e
  have h : Nat.gcd (lcd q i) (q i).den = 0 := Int.ofNat_inj.1 e
  omega
theorem lcd_gd {q : Nat → Rat} {i : Nat} : ((Nat.gcd (Int.natAbs ((lcd q i : Nat) : Int)) (Int.natAbs ((q i).den : Int)) : Nat) : Int) ∣ ((lcd q i : Nat) : Int) * ((q i).den : Int) := Int.dvd_mul_of_dvd_left (Int.ofNat_dvd_left.2 (Nat.gcd_dvd_left _ _))
theorem dg_scl {c : Nat → Rat} {L n : Nat} (h : 0 < L) : dg (fsclQ c (mkR (L : Int) 1)) n = dg c n := dg_same fun i _ => by
  show c i * mkR (L : Int) 1 = 0 ↔ c i = 0
  rw [mkR_int]
  constructor
  · intro e
    rcases Rat.mul_eq_zero.1 e with e | e
    · exact e
    · exact absurd (Rat.intCast_eq_zero_iff.1 e) (by omega)
  · intro e; rw [e]; exact Rat.zero_mul _
set_option maxRecDepth 100000 in
set_option maxHeartbeats 4000000 in
theorem aRToR {a : List Lf} {K : Nat} {q : Rat} (hq : IsQ a K q) (hK : K ≤ 10000000 := by decide) : ACall Try.prog 15 [.agg a] (.d (.agg (tn K q))) := by
  refine ACall.le (dl (DV.g hq) dl0) AV.le.rfl ?_
  refine acallN hTT 10 [.cell 2 52] Try.func15 rfl rfl rfl rfl rfl ?_
  refine cSeq ?_
  refine cReg ?_
  refine mN hTT (.box 47 (qn K q)) rfl rfl rfl ?_
  refine mN hTT (.box 52 ([.v (.bool false), .v (.slice none 0 0), .v (.bool false), .v (.slice none 0 0)])) rfl rfl rfl ?_
  refine mNil ?_
  refine tN ?_
  refine cSeq ?_
  refine cDrawK hTT 7 (by kernel_rfl) (by kernel_rfl) (by kernel_rfl) ?_
  refine .cons (OpS.V (.ptr 1 0) rfl) ?_
  refine .cons (OpS.V (.d (.agg (rn K (Rat.num q)))) rfl) ?_
  refine .cons (OpS.C0 (aRTo (isr K (Rat.num q)) (by omega)) rfl rfl rfl) ?_
  refine .cons (OpS.V (.ptr 1 2) rfl) ?_
  refine .cons (OpS.V (.d (.agg (rn K (Rat.den q : Int)))) rfl) ?_
  refine .cons (OpS.C0 (aRTo (isr K (Rat.den q : Int)) (by omega)) rfl rfl rfl) ?_
  refine .cons (OpS.V (.d (.agg (zn K (Rat.num q) ++ zn K (Rat.den q : Int)))) rfl) ?_
  refine .nil ?_
  refine mS hTT 2 (.box 52 (zn K (Rat.num q) ++ zn K (Rat.den q : Int))) rfl ?_
  refine mNil ?_
  refine tN ?_
  refine cRet ?_
  exact rQ rfl (le_tn2 (Nat.le_refl _) (Nat.le_refl _) rfl rfl)

theorem ls_cv {K1 K3 K4 M n1 m1 L : Nat} {p q : Nat → Rat} {x y : Nat → Int} (h3 : K3 ≤ M) (h4 : K4 ≤ M) (h5 : K1 ≤ M) (e4 : ∀ i, i < n1 → x i = cX L p i) (e5 : ∀ i, i < m1 → y i = cX L q i) : ∀ B w cs, LsR B w ([prow K3 n1 x, prow K4 m1 y] ++ zn K1 (L : Int)) cs → LsR B w (cvn M n1 m1 L p q) cs
  | B, w, [a, b, c, d], ⟨k1, k2, k3, k4, k5⟩ => ⟨prow_le h3 e4 _ _ _ k1, prow_le h4 e5 _ _ _ k2, k3, lr_mono h5 _ _ _ k4, k5⟩
theorem le_nrm12 {K1 K2 K3 K4 M n m n1 m1 : Nat} {D : Int} {p q : Nat → Rat} {x y : Nat → Int} (h3 : K3 ≤ M) (h4 : K4 ≤ M) (h5 : K1 ≤ M) (e1 : n1 = dg p n) (e2 : m1 = dg q m) (e3 : D = (crL n m p q : Int)) (e4 : ∀ i, i < n1 → x i = cX (crL n m p q) p i) (e5 : ∀ i, i < m1 → y i = cX (crL n m p q) q i) : AV.le (.d (.agg ([qrow K2 (dg p n) p, qrow K2 (dg q m) q] ++ ([prow K3 n1 x, prow K4 m1 y] ++ zn K1 D)))) (.d (.agg ([qrow K2 (dg p n) p, qrow K2 (dg q m) q] ++ crv M n m p q))) := by
  subst e1; subst e2; subst e3
  exact le_agg (ls_abd (fun _ _ _ h => h) (fun _ _ _ h => h) (ls_cv h3 h4 h5 e4 e5))
end Go.Proofs.Ytcnfblffeghboaa

/-
  CURVES, by the machine (4): the plain reckoning's Rebase; law12's helps; the law CurveRebases.
-/
set_option linter.unusedVariables false
set_option linter.unusedSimpArgs false
namespace Go.Proofs.Ytcnfblffeghboaa
open Go.RowKit

def KWm (a b : Nat) : Nat := max (KW a) (KW b)
theorem KW3 : ∀ s, s ≤ 3 → 64 ≤ KW s ∧ KW s ≤ 7926 := by decide
theorem qrow_mono {K L n : Nat} {c : Nat → Rat} (h : K ≤ L) : ∀ B w v, LfR B w (qrow K n c) v → LfR B w (qrow L n c) v := row_le (qel_le h fun _ _ => rfl)
end Go.Proofs.Ytcnfblffeghboaa

/-
  WHAT COMES IN (3): curves. No condition; nothing of the program.
-/
set_option linter.unusedVariables false
set_option linter.unusedSimpArgs false
namespace Go.Proofs.Ytcnfblffeghboaa
open Go.RowKit Go.ChangeShapes Go.WideShapes

section
variable {H : Type} {enc : TypeId × Value → H} {P : Program} {w : World}
theorem trod_struct3' {t : TypeId} {f0 f1 f2 : Field} {fuel : Nat} {cs : List Value} {x : DataW H × List MemPlace} (ht : P.underlying t = some (.struct #[f0, f1, f2])) (h : DataW.trod enc P w 0 (fun _ => true) true fuel t cs = some x) :
    ∃ y0 y1 y2 n, DataW.trod enc P w 0 (fun _ => true) true n f0.type ((cs.drop f0.offset).take (P.cellsOf f0.type)) = some y0 ∧
      DataW.trod enc P w 0 (fun _ => true) true n f1.type ((cs.drop f1.offset).take (P.cellsOf f1.type)) = some y1 ∧ DataW.trod enc P w 0 (fun _ => true) true n f2.type ((cs.drop f2.offset).take (P.cellsOf f2.type)) = some y2 := by
  obtain ⟨xs, n, _, rfl, hl, hlen, hf⟩ := DataW.trod_struct ht h
  match xs, hlen with
  | [y0, y1, y2], _ => exact ⟨y0, y1, y2, n, by simpa using hf 0 f0 rfl, by simpa using hf 1 f1 rfl, by simpa using hf 2 f2 rfl⟩
/-- A curve in any form. -/
def can (K : Nat) (n : Nat) (f : Nat → Bool × List Nat) (m : Nat) (g : Nat → Bool × List Nat) (s : Bool) (xs : List Nat) : List Lf := [arow K n f, arow K m g] ++ [.v (.bool s), lr K xs]
theorem am_curvec {t p u e : TypeId} {g0 g1 g2 f0 f1 : Field} {fuel : Nat} {cs : List Value} {x : DataW H × List MemPlace} (hr : P.underlying t = some (.struct #[g0, g1, g2])) (hg : g0.offset = 0 ∧ g1.offset = 1 ∧ g2.offset = 2 ∧ P.cellsOf g0.type = 1 ∧ P.cellsOf g1.type = 1 ∧ P.cellsOf g2.type = 2)
    (u0 : g0.type = p) (u1 : g1.type = p) (u2 : g2.type = u) (hp : P.underlying p = some (.slice u)) (hs : P.underlying u = some (.struct #[f0, f1])) (hCu : P.cellsOf u = 2) (ho : f0.offset = 0 ∧ f1.offset = 1 ∧ P.cellsOf f0.type = 1 ∧ P.cellsOf f1.type = 1)
    (h0 : P.underlying f0.type = some .bool) (h1 : P.underlying f1.type = some (.slice e)) (he : P.underlying e = some (.int .u32)) (hc : P.cellsOf e = 1) (hl : cs.length = 4)
    (h : DataW.trod enc P w 0 (fun _ => true) true fuel t cs = some x) : ∃ n f m g s xs, LsR nb w (can MX n f m g s xs) cs := by
  obtain ⟨y0, y1, y2, q, t0, t1, t2⟩ := trod_struct3' hr h
  obtain ⟨o0, o1, o2, k0, k1, k2⟩ := hg
  match cs, hl with
  | [c0, c1, c2, c3], _ =>
    rw [o0, k0, u0] at t0
    rw [o1, k1, u1] at t1
    rw [o2, k2, u2] at t2
    obtain ⟨v0, n, f, e0, r0⟩ := am_pol hp hs hCu ho h0 h1 he hc t0
    obtain ⟨v1, m, g, e1, r1⟩ := am_pol hp hs hCu ho h0 h1 he hc t1
    obtain ⟨s, xs, v2, e2, r2⟩ := am_intc hs ho h0 h1 he hc rfl t2
    simp at e0 e1 e2
    obtain ⟨rfl, rfl⟩ := e2
    subst e0; subst e1
    exact ⟨n, f, m, g, s, xs, r0, r1, ⟨rfl, rfl⟩, r2, trivial⟩
theorem am_curve {r : Reach} {b0 : Nat} {t p u e : TypeId} {g0 g1 g2 f0 f1 : Field} {v : Value} {d : DataW H} {pl : List MemPlace} (hr : P.underlying t = some (.struct #[g0, g1, g2])) (hC : P.cellsOf t = 4) (hg : g0.offset = 0 ∧ g1.offset = 1 ∧ g2.offset = 2 ∧ P.cellsOf g0.type = 1 ∧ P.cellsOf g1.type = 1 ∧ P.cellsOf g2.type = 2)
    (u0 : g0.type = p) (u1 : g1.type = p) (u2 : g2.type = u) (hp : P.underlying p = some (.slice u)) (hs : P.underlying u = some (.struct #[f0, f1])) (hCu : P.cellsOf u = 2) (ho : f0.offset = 0 ∧ f1.offset = 1 ∧ P.cellsOf f0.type = 1 ∧ P.cellsOf f1.type = 1)
    (h0 : P.underlying f0.type = some .bool) (h1 : P.underlying f1.type = some (.slice e)) (he : P.underlying e = some (.int .u32)) (hc : P.cellsOf e = 1)
    (hv : Value.okWide P w r b0 t v) (h : DataW.Trod enc P w 0 (fun _ => true) true t v d pl) : ∃ n f m g s xs, DR nb w (.agg (can MX n f m g s xs)) v := by
  obtain ⟨cs, rfl, hsz⟩ := okWide_struct hr hv
  obtain ⟨fuel, hf⟩ := h
  have hcs : (Value.agg cs).cells.toList = cs.toList := by simp [Value.cells]
  rw [hcs] at hf
  obtain ⟨n, f, m, g, s, xs, hx⟩ := am_curvec hr hg u0 u1 u2 hp hs hCu ho h0 h1 he hc (by simpa using hsz.trans hC) hf
  exact ⟨n, f, m, g, s, xs, cs.toList, by simp, hx⟩
end
end Go.Proofs.Ytcnfblffeghboaa

/-
  CURVES, by the machine (5): law12's helps; the law CurveRebases.
-/
set_option linter.unusedVariables false
set_option linter.unusedSimpArgs false
namespace Go.Proofs.Ytcnfblffeghboaa
open Go.RowKit

set_option maxRecDepth 100000 in
set_option maxHeartbeats 4000000 in
theorem aCut12 {K n m k l : Nat} {f g : Nat → Bool × List Nat} {s : Bool} {xs : List Nat} (hk : k ≤ 1000) (hl : l ≤ 1000) (hK : K ≤ 9223372036854775807) : ACall Try.prog 11 [.agg (can K n f m g s xs), .one (.v (.int .i64 (k : Int))), .one (.v (.int .i64 (l : Int)))] (.d (.agg (can l (min n k) (cutf l f) (min m k) (cutf l g) s (xs.take l)))) := by
  refine acallN hTT 22 [.cell 6 30] Try.func11 rfl rfl rfl rfl rfl ?_
  refine cSeq ?_
  refine cReg ?_
  refine mN hTT (.box 30 ([.row 2 n (ael K f)] ++ [.row 2 m (ael K g)] ++ [.v (.bool s), lr K xs])) rfl rfl rfl ?_
  refine mN hTT (.box 30 ([.v (.slice none 0 0), .v (.slice none 0 0), .v (.bool false), .v (.slice none 0 0)])) rfl rfl rfl ?_
  refine mNil ?_
  refine tN ?_
  refine cSeq ?_
  refine cDrawK hTT 15 (by kernel_rfl) (by kernel_rfl) (by kernel_rfl) ?_
  refine .cons (OpS.V (.ptr 3 0) rfl) ?_
  refine .cons (OpS.V (.d (.one (.row 2 n (ael K f)))) rfl) ?_
  refine .cons (OpS.V _ rfl) ?_
  refine .cons (OpS.V _ rfl) ?_
  refine .cons (OpS.C0 (aKPoly (K := K) (n := n) (m := k) (k := l) (f := f) (by omega) (by omega) (by omega)) rfl rfl rfl) ?_
  refine .cons (OpS.V (.ptr 3 1) rfl) ?_
  refine .cons (OpS.V (.d (.one (.row 2 m (ael K g)))) rfl) ?_
  refine .cons (OpS.V _ rfl) ?_
  refine .cons (OpS.V _ rfl) ?_
  refine .cons (OpS.C0 (aKPoly (K := K) (n := m) (m := k) (k := l) (f := g) (by omega) (by omega) (by omega)) rfl rfl rfl) ?_
  refine .cons (OpS.V (.ptr 3 2) rfl) ?_
  refine .cons (OpS.V (.d (.agg ([.v (.bool s), lr K xs]))) rfl) ?_
  refine .cons (OpS.V _ rfl) ?_
  refine .cons (OpS.C0 (aKInt (K := K) (k := l) (s := s) (xs := xs) (by omega) (by omega)) rfl rfl rfl) ?_
  refine .cons (OpS.V (.d (.agg ([.row 2 (min n k) (ael l (cutf l f))] ++ [.row 2 (min m k) (ael l (cutf l g))] ++ [.v (.bool s), lr l (xs.take l)]))) rfl) ?_
  refine .nil ?_
  refine mS hTT 6 (.box 30 ([.row 2 (min n k) (ael l (cutf l f))] ++ [.row 2 (min m k) (ael l (cutf l g))] ++ [.v (.bool s), lr l (xs.take l)])) rfl ?_
  refine mNil ?_
  refine tN ?_
  refine cRet ?_
  exact rQ rfl (AV.le.rfl)

theorem isi_01 : True := trivial
set_option maxRecDepth 100000 in
set_option maxHeartbeats 4000000 in
theorem aWakes12 : ACall Try.prog 22 [] (.d (.one (.v (.bool true)))) := by
  refine acallN hTT 24 [.tmp 0] Try.func22 rfl rfl rfl rfl rfl ?_
  refine cSeq ?_
  refine cReg ?_
  refine mV hTT _ rfl ?_
  refine mNil ?_
  refine tN ?_
  refine cSeq ?_
  refine cReg ?_
  refine mB hTT (.d (.one (.row 1 2 (fun i' j' => (([.v (.int .i64 0), .v (.int .i64 1)])[i' * 1 + j']?).getD (.v undef))))) rfl ?_
  refine mC0 (aPOf (isi_lit (l := [0, 1]) (n := 2) rfl (fun i hi => match i, hi with | 0, _ => rfl | 1, _ => rfl)) (by decide) (by omega)) rfl rfl rfl ?_
  refine mC0 (aROfR (n := 1) (d := 2) (by decide) (by decide) (by decide) (by decide)) rfl rfl rfl ?_
  refine mC0 (aRToR (isq 64 (mkR 1 2)) (by decide)) rfl rfl rfl ?_
  refine mC0 (aCRebaseQ (isp (K := 2) (c := (lst [0, 1])) (dg_z lst_z)) (IsP.mono (L := 2) isp_nil (by decide)) (L := 64) (q := (mkR 1 2)) (M := 65162) (Nat.le_trans (dg_le _ _) (by decide)) (by decide) (by decide) (by decide)) rfl rfl rfl ?_
  refine mN hTT (.box 30 ([.v (.slice none 0 0), .v (.slice none 0 0), .v (.bool false), .v (.slice none 0 0)])) rfl rfl rfl ?_
  refine mS hTT 1 (.box 30 (crv 65162 (dg (lst [0, 1]) (dg (lst [0, 1]) 2)) (dg (fun _ => 0) 0) (shf (rc (lst [0, 1])) (dg (lst [0, 1]) (dg (lst [0, 1]) 2)) (-(mkR 1 2))) (shf (rc (fun _ => 0)) (dg (fun _ => 0) 0) (-(mkR 1 2))))) rfl ?_
  refine mNil ?_
  refine tN ?_
  refine cSeq ?_
  refine cDrawK hTT 18 (by kernel_rfl) (by kernel_rfl) (by kernel_rfl) ?_
  refine .cons (OpS.B _ rfl) ?_
  refine .cons (OpS.C0 (aQOf (isi_lit (l := [-1, 2]) (n := 2) rfl (fun i hi => match i, hi with | 0, _ => rfl | 1, _ => rfl)) (by decide) (by omega)) rfl rfl rfl) ?_
  refine .cons (OpS.V (.ptr 1 0) rfl) ?_
  refine .cons (OpS.V (.d (.one (.row 2 (dg (shf (rc (lst [0, 1])) (dg (lst [0, 1]) (dg (lst [0, 1]) 2)) (-(mkR 1 2))) (dg (lst [0, 1]) (dg (lst [0, 1]) 2))) (zel 65162 (cX (crL (dg (lst [0, 1]) (dg (lst [0, 1]) 2)) (dg (fun _ => 0) 0) (shf (rc (lst [0, 1])) (dg (lst [0, 1]) (dg (lst [0, 1]) 2)) (-(mkR 1 2))) (shf (rc (fun _ => 0)) (dg (fun _ => 0) 0) (-(mkR 1 2)))) (shf (rc (lst [0, 1])) (dg (lst [0, 1]) (dg (lst [0, 1]) 2)) (-(mkR 1 2)))))))) rfl) ?_
  refine .cons (OpS.C0 (ACall.le (dl (dle (le_qrow (Nat.le_refl 64) (by decide +kernel) (by decide +kernel))) (dl DV.same dl0)) AV.le.rfl (aQSame (K := 64) (L := 65162) (n := (dg (shf (rc (lst [0, 1])) (dg (lst [0, 1]) (dg (lst [0, 1]) 2)) (-(mkR 1 2))) (dg (lst [0, 1]) (dg (lst [0, 1]) 2)))) (c := (cX (crL (dg (lst [0, 1]) (dg (lst [0, 1]) 2)) (dg (fun _ => 0) 0) (shf (rc (lst [0, 1])) (dg (lst [0, 1]) (dg (lst [0, 1]) 2)) (-(mkR 1 2))) (shf (rc (fun _ => 0)) (dg (fun _ => 0) 0) (-(mkR 1 2)))) (shf (rc (lst [0, 1])) (dg (lst [0, 1]) (dg (lst [0, 1]) 2)) (-(mkR 1 2))))) (fun _ _ _ h => h) (fun _ _ _ h => h) (Nat.le_trans (dg_le _ _) (Nat.le_trans (dg_le _ _) (by decide))) (by decide) (by decide))) rfl rfl rfl) ?_
  refine .cons (OpS.V _ rfl) ?_
  refine .cons (OpS.V (.ptr 1 1) rfl) ?_
  refine .cons (OpS.V (.d (.one (.row 2 (dg (shf (rc (fun _ => 0)) (dg (fun _ => 0) 0) (-(mkR 1 2))) (dg (fun _ => 0) 0)) (zel 65162 (cX (crL (dg (lst [0, 1]) (dg (lst [0, 1]) 2)) (dg (fun _ => 0) 0) (shf (rc (lst [0, 1])) (dg (lst [0, 1]) (dg (lst [0, 1]) 2)) (-(mkR 1 2))) (shf (rc (fun _ => 0)) (dg (fun _ => 0) 0) (-(mkR 1 2)))) (shf (rc (fun _ => 0)) (dg (fun _ => 0) 0) (-(mkR 1 2)))))))) rfl) ?_
  refine .cons (OpS.V (.d (.one (.v (.int .i64 ((dg (shf (rc (fun _ => 0)) (dg (fun _ => 0) 0) (-(mkR 1 2))) (dg (fun _ => 0) 0) : Nat) : Int))))) rfl) ?_
  refine .cons (OpS.V (.d (.one (.v (.bool true)))) (evb (by decide +kernel))) ?_
  refine .cons (OpS.V _ rfl) ?_
  refine .cons (OpS.V _ rfl) ?_
  refine .cons (OpS.C0 (aROf (n := 2) (by decide) (by decide)) rfl rfl rfl) ?_
  refine .cons (OpS.V (.ptr 1 2) rfl) ?_
  refine .cons (OpS.V (.d (.agg (zn 65162 ((crL (dg (lst [0, 1]) (dg (lst [0, 1]) 2)) (dg (fun _ => 0) 0) (shf (rc (lst [0, 1])) (dg (lst [0, 1]) (dg (lst [0, 1]) 2)) (-(mkR 1 2))) (shf (rc (fun _ => 0)) (dg (fun _ => 0) 0) (-(mkR 1 2)))) : Int)))) rfl) ?_
  refine .cons (OpS.C0 (aRSame (IsR.eq (isr 64 2) (by decide +kernel)) (isn 65162 ((crL (dg (lst [0, 1]) (dg (lst [0, 1]) 2)) (dg (fun _ => 0) 0) (shf (rc (lst [0, 1])) (dg (lst [0, 1]) (dg (lst [0, 1]) 2)) (-(mkR 1 2))) (shf (rc (fun _ => 0)) (dg (fun _ => 0) 0) (-(mkR 1 2)))) : Int)) (by decide) (by decide)) rfl rfl rfl) ?_
  refine .cons (OpS.V _ rfl) ?_
  refine .cons (OpS.V _ rfl) ?_
  refine .nil ?_
  refine mNil ?_
  refine tN ?_
  refine cRet ?_
  exact rQ rfl (AV.le.rfl)

end Go.Proofs.Ytcnfblffeghboaa

/-
  PLAIN LAW of chapter 12 (2): rows of rationals that are moved; what is told from a time on, and back. No condition; nothing of the program.
-/
set_option linter.unusedVariables false
set_option linter.unusedSimpArgs false
namespace Go.Proofs.Ytcnfblffeghboaa
open Go.RowKit

theorem rc_cX {n m : Nat} {p q : Nat → Rat} (zp : ∀ i, n ≤ i → p i = 0) (i : Nat) : rc (cX (crL n m p q) p) i = p i * mkR (crL n m p q : Int) 1 := by
  by_cases h : i < dg p n
  · refine cX_den ?_
    have := lcd_dvd (q := catF (dg p n) p q) (i := i) (n := dg p n + dg q m) (by omega)
    rwa [catF_l h] at this
  · have hp : p i = 0 := dg_z zp i (by omega)
    unfold rc cX; rw [hp, Rat.zero_mul]; rfl
theorem rc_cX2 {n m : Nat} {p q : Nat → Rat} (zq : ∀ i, m ≤ i → q i = 0) (i : Nat) : rc (cX (crL n m p q) q) i = q i * mkR (crL n m p q : Int) 1 := by
  by_cases h : i < dg q m
  · refine cX_den ?_
    have := lcd_dvd (q := catF (dg p n) p q) (i := dg p n + i) (n := dg p n + dg q m) (by omega)
    rwa [catF_r (by omega), Nat.add_sub_cancel_left] at this
  · have hp : q i = 0 := dg_z zq i (by omega)
    unfold rc cX; rw [hp, Rat.zero_mul]; rfl
/-- Rows with one value at all whole numbers are one. -/
theorem pe_none {c : Nat → Rat} {n : Nat} (hz : ∀ i, n ≤ i → c i = 0) (h : ∀ x : Int, pe c (x : Rat) n = 0) (i : Nat) : c i = 0 := by
  have hL := crL_pos (n := n) (m := 0) (p := c) (q := fun _ => 0)
  have hc : ∀ j, rc (cX (crL n 0 c fun _ => 0) c) j = fsclQ c (mkR (crL n 0 c fun _ => 0 : Int) 1) j := fun j => rc_cX hz j
  have h0 := pz_zero (c := cX (crL n 0 c fun _ => 0) c) (n := n) (cX_z hz) (fun x => by
    show pe (rc _) _ _ = 0
    rw [funext hc, pe_scl, h x, Rat.zero_mul]) i
  have h1 := rc_cX (m := 0) (q := fun _ => 0) hz i
  unfold rc at h1
  rw [h0, mkR_int] at h1
  rcases Rat.mul_eq_zero.1 h1.symm with h2 | h2
  · exact h2
  · have := Rat.intCast_eq_zero_iff.1 h2; omega
theorem pe_one {a b : Nat → Rat} {n m : Nat} (ha : ∀ i, n ≤ i → a i = 0) (hb : ∀ i, m ≤ i → b i = 0) (h : ∀ x : Int, pe a (x : Rat) n = pe b (x : Rat) m) (i : Nat) : a i = b i := by
  have hz : ∀ j, max n m ≤ j → faddQ a (fsclQ b (-1)) j = 0 := fun j hj => by
    show a j + b j * -1 = 0
    rw [ha j (by omega), hb j (by omega)]; grind
  have h0 := pe_none hz (fun x => by
    rw [pe_add, pe_scl, pe_eq (m := n) (fun j hj => ha j (by omega)) ha, pe_eq (a := b) (m := m) (fun j hj => hb j (by omega)) hb, h x]; grind) i
  have h1 : a i + b i * -1 = 0 := h0
  grind
theorem pe_shf {c : Nat → Rat} {n : Nat} (r q : Rat) : pe (shf c n r) q n = pe c (q + r) n := by
  unfold shf; rw [pe_hv n, pe_vl]
theorem shf_shf {c : Nat → Rat} {n m : Nat} {r s : Rat} (hm : ∀ i, m ≤ i → shf c n r i = 0) (i : Nat) : shf (shf c n r) m s i = shf c n (r + s) i := by
  refine pe_one shf_z shf_z (fun x => ?_) i
  rw [pe_shf, pe_eq hm shf_z, pe_shf, pe_shf]
  congr 1; grind
theorem shf_zero {c : Nat → Rat} {n : Nat} (hc : ∀ i, n ≤ i → c i = 0) (i : Nat) : shf c n 0 i = c i := by
  refine pe_one shf_z hc (fun x => ?_) i
  rw [pe_shf]; congr 1; grind
theorem shf_scl {c : Nat → Rat} {n : Nat} {r k : Rat} (i : Nat) : shf (fsclQ c k) n r i = shf c n r i * k := by
  refine pe_one (n := n) (m := n) (b := fsclQ (shf c n r) k) shf_z (fsclQ_z shf_z) (fun x => ?_) i
  rw [pe_shf, pe_scl, pe_scl, pe_shf]
theorem shf_len {c : Nat → Rat} {n m : Nat} {r : Rat} (hn : ∀ i, n ≤ i → c i = 0) (hm : ∀ i, m ≤ i → c i = 0) (i : Nat) : shf c n r i = shf c m r i := by
  refine pe_one shf_z shf_z (fun x => ?_) i
  rw [pe_shf, pe_shf, pe_eq hn hm]
theorem shf_dg {c : Nat → Rat} {n : Nat} {r : Rat} (h : n = 0 ∨ c (n - 1) ≠ 0) (hc : ∀ i, n ≤ i → c i = 0) : dg (shf c n r) n = n := by
  have hle := dg_le (shf c n r) n
  rcases h with rfl | h
  · exact Nat.le_zero.1 hle
  · rcases Nat.lt_or_ge (dg (shf c n r) n) n with h1 | h1
    · exfalso
      apply h
      have hz : ∀ i, dg (shf c n r) n ≤ i → shf c n r i = 0 := dg_z shf_z
      have h2 := shf_shf (s := -r) hz (n - 1)
      rw [shf_z _ (by omega), show r + -r = 0 by grind, shf_zero hc] at h2
      exact h2.symm
    · omega
/-- A normal curve's row moved, over both denominators. -/
theorem back_ov {n m n2 m2 : Nat} {P Q Q2 : Nat → Rat} {r : Rat} (zP : ∀ i, n ≤ i → P i = 0) (hn2 : ∀ i, n2 ≤ i → P i = 0) (i : Nat) :
    ov ((crL n2 m2 (shf (rc (cX (crL n m P Q) P)) n2 r) Q2 : Int) * (crL n m P Q : Int)) (cX (crL n2 m2 (shf (rc (cX (crL n m P Q) P)) n2 r) Q2) (shf (rc (cX (crL n m P Q) P)) n2 r)) i = shf P n2 r i := by
  have h0 := crL_pos (n := n) (m := m) (p := P) (q := Q)
  have h1 := crL_pos (n := n2) (m := m2) (p := shf (rc (cX (crL n m P Q) P)) n2 r) (q := Q2)
  show rc _ i * mkR 1 _ = _
  rw [rc_cX shf_z]
  have h2 : rc (cX (crL n m P Q) P) = fsclQ P (mkR (crL n m P Q : Int) 1) := funext fun j => rc_cX zP j
  generalize hA : shf (rc (cX (crL n m P Q) P)) n2 r = A at *
  have h3 : A i = shf P n2 r i * mkR (crL n m P Q : Int) 1 := by rw [← hA, h2, shf_scl]
  rw [h3]
  have h4 := mkR_div (x := 1) (y := (crL n2 m2 A Q2 : Int) * (crL n m P Q : Int)) (Int.mul_ne_zero (by omega) (by omega))
  rw [mkR_int, mkR_int]
  rw [Rat.intCast_mul] at h4
  have h5 : ((1 : Int) : Rat) = 1 := rfl
  rw [h5] at h4
  grind
theorem back_ov2 {n m n2 m2 : Nat} {P Q Q2 : Nat → Rat} {r : Rat} (zQ : ∀ i, m ≤ i → Q i = 0) (hm2 : ∀ i, m2 ≤ i → Q i = 0) (i : Nat) :
    ov ((crL n2 m2 Q2 (shf (rc (cX (crL n m P Q) Q)) m2 r) : Int) * (crL n m P Q : Int)) (cX (crL n2 m2 Q2 (shf (rc (cX (crL n m P Q) Q)) m2 r)) (shf (rc (cX (crL n m P Q) Q)) m2 r)) i = shf Q m2 r i := by
  have h0 := crL_pos (n := n) (m := m) (p := P) (q := Q)
  have h1 := crL_pos (n := n2) (m := m2) (p := Q2) (q := shf (rc (cX (crL n m P Q) Q)) m2 r)
  show rc _ i * mkR 1 _ = _
  rw [rc_cX2 shf_z]
  have h2 : rc (cX (crL n m P Q) Q) = fsclQ Q (mkR (crL n m P Q : Int) 1) := funext fun j => rc_cX2 zQ j
  generalize hA : shf (rc (cX (crL n m P Q) Q)) m2 r = A at *
  have h3 : A i = shf Q m2 r i * mkR (crL n m P Q : Int) 1 := by rw [← hA, h2, shf_scl]
  rw [h3]
  have h4 := mkR_div (x := 1) (y := (crL n2 m2 Q2 A : Int) * (crL n m P Q : Int)) (Int.mul_ne_zero (by omega) (by omega))
  rw [mkR_int, mkR_int]
  rw [Rat.intCast_mul] at h4
  have h5 : ((1 : Int) : Rat) = 1 := rfl
  rw [h5] at h4
  grind
end Go.Proofs.Ytcnfblffeghboaa

