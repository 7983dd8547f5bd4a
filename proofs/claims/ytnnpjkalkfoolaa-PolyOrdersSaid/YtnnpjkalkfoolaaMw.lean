/-
  POLYNOMIALS, by the machine (1).
-/
import Derived.Test.YtnnpjkalkfoolaaMu
import Derived.Test.YtnnpjkalkfoolaaMv
set_option linter.unusedVariables false
set_option linter.unusedSimpArgs false
namespace Go.Proofs.Ytnnpjkalkfoolaa
open Go.RowKit

set_option maxRecDepth 100000 in
set_option maxHeartbeats 4000000 in
theorem aPCut {K n : Nat} {c : Nat → Int} (hn : n ≤ 1000000) : ACall Try.prog 86 [.one (prow K n c)] (.d (.one (prow K (dg c n) c))) := by
  refine acallN hTT 21 [.tmp 2] Try.func86 rfl rfl rfl rfl rfl ?_
  refine cSeq ?_
  refine cReg ?_
  refine mV hTT _ rfl ?_
  refine mNil ?_
  refine tN ?_
  refine cSeq ?_
  refine cReg ?_
  refine mV hTT _ rfl ?_
  refine mV hTT (.d (.one (.v (.int .i64 (n : Int))))) rfl ?_
  refine mV hTT _ rfl ?_
  refine mNil ?_
  refine tN ?_
  refine cSeq ?_
  refine cBlock ?_
  refine cLoop (ι := Nat) (fun (k : Nat) => ⟨21, [(0, .d (.one (.row 2 n (zel K c)))), (3, .d (.one (.v (.int .i64 ((k : Nat) : Int)))))], []⟩) (fun (k : Nat) => k ≤ n ∧ dg c n = dg c k) (fun (k : Nat) => k) n (⟨Nat.le_refl _, rfl⟩) (wk (sl := [(0, .d (.one (.row 2 n (zel K c)))), (3, .d (.one (.v (.int .i64 ((n : Nat) : Int)))))]) (hp := []) rfl ⟨hs rfl, hs rfl, trivial⟩ trivial rfl) ?_
  rintro k hI
  obtain ⟨hkn, hk⟩ : k ≤ n ∧ dg c n = dg c k := hI
  show AW Try.prog _ _ ⟨21, [(0, .d (.one (.row 2 n (zel K c)))), (3, .d (.one (.v (.int .i64 ((k : Nat) : Int)))))], []⟩
  refine cSeq ?_
  refine cSeq ?_
  by_cases hk0 : k = 0
  · skip
    refine cReg ?_
    refine mV hTT _ rfl ?_
    refine mV hTT (.d (.one (.v (.bool false)))) (evb (decide_eq_false (by omega))) ?_
    refine mV hTT _ rfl ?_
    refine mG rfl rfl ?_
    refine mG rfl rfl ?_
    refine mG rfl rfl ?_
    refine mG rfl rfl ?_
    refine mG rfl rfl ?_
    refine mG rfl rfl ?_
    refine mV hTT _ rfl ?_
    refine mNil ?_
    refine tN ?_
    refine cF rfl ?_
    refine cExit ?_
    refine tE ?_
    refine tE ?_
    refine bE ?_
    refine tN ?_
    refine cSeq ?_
    have hd : k = dg c n := by rw [hk, hk0]; rfl
    refine cReg ?_
    refine mV hTT _ rfl ?_
    refine mV hTT _ rfl ?_
    refine mV hTT (.d (.one (.row 2 k (zel K c)))) (slR (z := (k : Int)) (n := n) rfl rfl rfl rfl rfl rfl (by omega) (by omega)) ?_
    refine mV hTT _ rfl ?_
    refine mNil ?_
    refine tN ?_
    refine cRet ?_
    exact rQ rfl (le_prow (Nat.le_refl _) hd (fun _ _ => rfl))
  · skip
    refine cReg ?_
    refine mV hTT _ rfl ?_
    refine mV hTT (.d (.one (.v (.bool true)))) (evb (decide_eq_true (by omega))) ?_
    refine mV hTT _ rfl ?_
    refine mV hTT _ rfl ?_
    refine mV hTT _ rfl ?_
    refine mV hTT (.d (.one (.v (.int .i64 ((k - 1 : Nat) : Int))))) (evi ((wr64 (by omega) (by omega)).trans (by omega))) ?_
    refine mV hTT (.d (.one (.at 2 ((zel K c) (k - 1))))) (ixR (el := (zel K c)) (z := ((k - 1 : Nat) : Int)) (n := n) rfl rfl rfl rfl rfl rfl (by omega) (by omega)) ?_
    refine mV hTT (.d (.agg (zn K (c (k - 1))))) rfl ?_
    refine mC0 (aZero (isn K (c (k - 1)))) rfl rfl rfl ?_
    refine mV hTT _ rfl ?_
    refine mNil ?_
    refine tN ?_
    refine cCond rfl (fun hc1 => ?_) (fun hc1 => ?_)
    · skip
      refine cSkip ?_
      refine tN ?_
      refine cBlock ?_
      have hc0 : c (k - 1) = 0 := of_decide_eq_true hc1
      refine cReg ?_
      refine mV hTT _ rfl ?_
      refine mV hTT (.d (.one (.v (.int .i64 ((k - 1 : Nat) : Int))))) (evi ((wr64 (by omega) (by omega)).trans (by omega))) ?_
      refine mV hTT _ rfl ?_
      refine mNil ?_
      refine bN ?_
      exact ⟨(k - 1), ⟨by omega, dg_down hk hk0 hc0⟩, by omega, wk (sl := [(0, .d (.one (.row 2 n (zel K c)))), (3, .d (.one (.v (.int .i64 (((k - 1) : Nat) : Int)))))]) (hp := []) rfl ⟨hs rfl, hs rfl, trivial⟩ trivial rfl⟩
    · skip
      refine cExit ?_
      refine tE ?_
      refine tE ?_
      refine bE ?_
      refine tN ?_
      refine cSeq ?_
      have hd : k = dg c n := by rw [hk]; exact (dg_stop (Or.inr fun e => of_decide_eq_false hc1 e)).symm
      refine cReg ?_
      refine mV hTT _ rfl ?_
      refine mV hTT _ rfl ?_
      refine mV hTT (.d (.one (.row 2 k (zel K c)))) (slR (z := (k : Int)) (n := n) rfl rfl rfl rfl rfl rfl (by omega) (by omega)) ?_
      refine mV hTT _ rfl ?_
      refine mNil ?_
      refine tN ?_
      refine cRet ?_
      exact rQ rfl (le_prow (Nat.le_refl _) hd (fun _ _ => rfl))

set_option maxRecDepth 100000 in
set_option maxHeartbeats 4000000 in
theorem aQCut {K n : Nat} {c : Nat → Rat} (hn : n ≤ 1000000) : ACall Try.prog 79 [.one (qrow K n c)] (.d (.one (qrow K (dg c n) c))) := by
  refine acallN hTT 22 [.tmp 2] Try.func79 rfl rfl rfl rfl rfl ?_
  refine cSeq ?_
  refine cReg ?_
  refine mV hTT _ rfl ?_
  refine mNil ?_
  refine tN ?_
  refine cSeq ?_
  refine cReg ?_
  refine mV hTT _ rfl ?_
  refine mV hTT (.d (.one (.v (.int .i64 (n : Int))))) rfl ?_
  refine mV hTT _ rfl ?_
  refine mNil ?_
  refine tN ?_
  refine cSeq ?_
  refine cBlock ?_
  refine cLoop (ι := Nat) (fun (k : Nat) => ⟨22, [(0, .d (.one (.row 4 n (qel K c)))), (3, .d (.one (.v (.int .i64 ((k : Nat) : Int)))))], []⟩) (fun (k : Nat) => k ≤ n ∧ dg c n = dg c k) (fun (k : Nat) => k) n (⟨Nat.le_refl _, rfl⟩) (wk (sl := [(0, .d (.one (.row 4 n (qel K c)))), (3, .d (.one (.v (.int .i64 ((n : Nat) : Int)))))]) (hp := []) rfl ⟨hs rfl, hs rfl, trivial⟩ trivial rfl) ?_
  rintro k hI
  obtain ⟨hkn, hk⟩ : k ≤ n ∧ dg c n = dg c k := hI
  show AW Try.prog _ _ ⟨22, [(0, .d (.one (.row 4 n (qel K c)))), (3, .d (.one (.v (.int .i64 ((k : Nat) : Int)))))], []⟩
  refine cSeq ?_
  refine cSeq ?_
  by_cases hk0 : k = 0
  · skip
    refine cReg ?_
    refine mV hTT _ rfl ?_
    refine mV hTT (.d (.one (.v (.bool false)))) (evb (decide_eq_false (by omega))) ?_
    refine mV hTT _ rfl ?_
    refine mG rfl rfl ?_
    refine mG rfl rfl ?_
    refine mG rfl rfl ?_
    refine mG rfl rfl ?_
    refine mG rfl rfl ?_
    refine mG rfl rfl ?_
    refine mG rfl rfl ?_
    refine mV hTT _ rfl ?_
    refine mNil ?_
    refine tN ?_
    refine cF rfl ?_
    refine cExit ?_
    refine tE ?_
    refine tE ?_
    refine bE ?_
    refine tN ?_
    refine cSeq ?_
    have hd : k = dg c n := by rw [hk, hk0]; rfl
    refine cReg ?_
    refine mV hTT _ rfl ?_
    refine mV hTT _ rfl ?_
    refine mV hTT (.d (.one (.row 4 k (qel K c)))) (slR (z := (k : Int)) (n := n) rfl rfl rfl rfl rfl rfl (by omega) (by omega)) ?_
    refine mV hTT _ rfl ?_
    refine mNil ?_
    refine tN ?_
    refine cRet ?_
    exact rQ rfl (le_qrow (Nat.le_refl _) hd (fun _ _ => rfl))
  · skip
    refine cReg ?_
    refine mV hTT _ rfl ?_
    refine mV hTT (.d (.one (.v (.bool true)))) (evb (decide_eq_true (by omega))) ?_
    refine mV hTT _ rfl ?_
    refine mV hTT _ rfl ?_
    refine mV hTT _ rfl ?_
    refine mV hTT (.d (.one (.v (.int .i64 ((k - 1 : Nat) : Int))))) (evi ((wr64 (by omega) (by omega)).trans (by omega))) ?_
    refine mV hTT (.d (.one (.at 4 ((qel K c) (k - 1))))) (ixR (el := (qel K c)) (z := ((k - 1 : Nat) : Int)) (n := n) rfl rfl rfl rfl rfl rfl (by omega) (by omega)) ?_
    refine mV hTT _ rfl ?_
    refine mV hTT (.d (.agg (rn K (Rat.num (c (k - 1)))))) rfl ?_
    refine mC0 (aRZero (isr K (Rat.num (c (k - 1))))) rfl rfl rfl ?_
    refine mV hTT _ rfl ?_
    refine mNil ?_
    refine tN ?_
    refine cCond rfl (fun hc1 => ?_) (fun hc1 => ?_)
    · skip
      refine cSkip ?_
      refine tN ?_
      refine cBlock ?_
      have hc0 : (c (k - 1)).num = 0 := of_decide_eq_true hc1
      refine cReg ?_
      refine mV hTT _ rfl ?_
      refine mV hTT (.d (.one (.v (.int .i64 ((k - 1 : Nat) : Int))))) (evi ((wr64 (by omega) (by omega)).trans (by omega))) ?_
      refine mV hTT _ rfl ?_
      refine mNil ?_
      refine bN ?_
      exact ⟨(k - 1), ⟨by omega, dg_down hk hk0 (Rat.num_eq_zero.1 hc0)⟩, by omega, wk (sl := [(0, .d (.one (.row 4 n (qel K c)))), (3, .d (.one (.v (.int .i64 (((k - 1) : Nat) : Int)))))]) (hp := []) rfl ⟨hs rfl, hs rfl, trivial⟩ trivial rfl⟩
    · skip
      refine cExit ?_
      refine tE ?_
      refine tE ?_
      refine bE ?_
      refine tN ?_
      refine cSeq ?_
      have hd : k = dg c n := by rw [hk]; exact (dg_stop (Or.inr fun e => of_decide_eq_false hc1 (by show (c (k - 1)).num = 0; rw [e]; rfl))).symm
      refine cReg ?_
      refine mV hTT _ rfl ?_
      refine mV hTT _ rfl ?_
      refine mV hTT (.d (.one (.row 4 k (qel K c)))) (slR (z := (k : Int)) (n := n) rfl rfl rfl rfl rfl rfl (by omega) (by omega)) ?_
      refine mV hTT _ rfl ?_
      refine mNil ?_
      refine tN ?_
      refine cRet ?_
      exact rQ rfl (le_qrow (Nat.le_refl _) hd (fun _ _ => rfl))

end Go.Proofs.Ytnnpjkalkfoolaa
