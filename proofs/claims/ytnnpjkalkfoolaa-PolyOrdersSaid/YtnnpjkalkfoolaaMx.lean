/-
  POLYNOMIALS, by the machine (2): the plain reckoning; what is handed in, cut.
-/
import Derived.Test.YtnnpjkalkfoolaaMw
set_option linter.unusedVariables false
set_option linter.unusedSimpArgs false
namespace Go.Proofs.Ytnnpjkalkfoolaa
open Go.RowKit

set_option maxRecDepth 100000 in
set_option maxHeartbeats 4000000 in
theorem aKInt {K k : Nat} {s : Bool} {xs : List Nat} (hk : k ≤ 1000000 := by decide) (hK : K ≤ 9223372036854775807 := by decide) : ACall Try.prog 12 [.agg [.v (.bool s), lr K xs], .one (.v (.int .i64 (k : Int)))] (.d (.agg [.v (.bool s), lr k (xs.take k)])) := by
  refine acallN hTT 12 [.cell 4 26] Try.func12 rfl rfl rfl rfl rfl ?_
  refine cSeq ?_
  refine cReg ?_
  refine mN hTT (.box 26 ([.v (.bool s), lr K xs])) rfl rfl rfl ?_
  refine mN hTT (.box 26 ([.v (.bool false), .v (.slice none 0 0)])) rfl rfl rfl ?_
  refine mNil ?_
  refine tN ?_
  refine cSeq ?_
  refine cDrawK hTT 7 (by kernel_rfl) (by kernel_rfl) ?_
  refine .cons (OpS.V (.ptr 2 0) rfl) ?_
  refine .cons (OpS.V (.d (.one (.v (.bool s)))) rfl) ?_
  refine .cons (OpS.V (.ptr 2 1) rfl) ?_
  refine .cons (OpS.V (.d (.one (lr K xs))) rfl) ?_
  refine .cons (OpS.V _ rfl) ?_
  refine .cons (OpS.C0 (aRow (K := K) (k := k) (xs := xs) (by omega) (by omega)) rfl rfl rfl) ?_
  refine .cons (OpS.V (.d (.agg ([.v (.bool s), lr k (xs.take k)]))) rfl) ?_
  refine .nil ?_
  refine mS hTT 4 (.box 26 ([.v (.bool s), lr k (xs.take k)])) rfl ?_
  refine mNil ?_
  refine tN ?_
  refine cRet ?_
  exact rQ rfl (AV.le.rfl)

set_option maxRecDepth 100000 in
set_option maxHeartbeats 4000000 in
theorem aKPoly {K n m k : Nat} {f : Nat → Bool × List Nat} (hm : m ≤ 1000 := by decide) (hk : k ≤ 1000 := by decide) (hK : K ≤ 9223372036854775807 := by decide) : ACall Try.prog 68 [.one (arow K n f), .one (.v (.int .i64 (m : Int))), .one (.v (.int .i64 (k : Int)))] (.d (.one (arow k (min n m) (cutf k f)))) := by
  refine acallN hTT 30 [.tmp 6] Try.func68 rfl rfl rfl rfl rfl ?_
  refine cSeq ?_
  refine cReg ?_
  refine mV hTT _ rfl ?_
  refine mNil ?_
  refine tN ?_
  refine cSeq ?_
  refine cReg ?_
  refine mV hTT _ rfl ?_
  refine mNil ?_
  refine tN ?_
  refine cSeq ?_
  refine cSeq ?_
  refine AW.wk (wkNil 7 7 26 2 (fun _ _ => .v undef) rfl rfl) ?_
  refine cReg ?_
  refine mV hTT _ rfl ?_
  refine mNil ?_
  refine tN ?_
  refine cBlock ?_
  refine cLoop (ι := Nat) (fun (i : Nat) => ⟨30, [(0, .d (.one (.row 2 n (ael K f)))), (1, .d (.one (.v (.int .i64 (m : Int))))), (2, .d (.one (.v (.int .i64 (k : Int))))), (8, .d (.one (.v (.int .i64 ((i : Nat) : Int))))), (7, .own 7)], [(7, .row 26 2 i (ael k (cutf k f)))]⟩) (fun (i : Nat) => i ≤ min n m) (fun (i : Nat) => min n m - i) 0 (Nat.zero_le _) (wk (sl := [(0, .d (.one (.row 2 n (ael K f)))), (1, .d (.one (.v (.int .i64 (m : Int))))), (2, .d (.one (.v (.int .i64 (k : Int))))), (8, .d (.one (.v (.int .i64 ((0 : Nat) : Int))))), (7, .own 7)]) (hp := [(7, .row 26 2 0 (ael k (cutf k f)))]) rfl ⟨hs rfl, hs rfl, hs rfl, hs rfl, hs rfl, trivial⟩ ⟨ho' rfl (leo_row0), trivial⟩ rfl) ?_
  rintro i hI
  have hi : i ≤ min n m := hI
  show AW Try.prog _ _ ⟨30, [(0, .d (.one (.row 2 n (ael K f)))), (1, .d (.one (.v (.int .i64 (m : Int))))), (2, .d (.one (.v (.int .i64 (k : Int))))), (8, .d (.one (.v (.int .i64 ((i : Nat) : Int))))), (7, .own 7)], [(7, .row 26 2 i (ael k (cutf k f)))]⟩
  refine cSeq ?_
  refine cSeq ?_
  by_cases hin : i < n
  · skip
    refine cReg ?_
    refine mV hTT _ rfl ?_
    refine mV hTT _ rfl ?_
    refine mV hTT (.d (.one (.v (.int .i64 (n : Int))))) rfl ?_
    refine mV hTT (.d (.one (.v (.bool true)))) (evb (decide_eq_true (by omega))) ?_
    refine mV hTT _ rfl ?_
    refine mV hTT _ rfl ?_
    refine mV hTT _ rfl ?_
    refine mV hTT (.d (.one (.v (.bool (decide (((i : Nat) : Int) < (m : Int))))))) rfl ?_
    refine mV hTT _ rfl ?_
    refine mNil ?_
    refine tN ?_
    refine cCond rfl (fun hc1 => ?_) (fun hc1 => ?_)
    · skip
      refine cSkip ?_
      refine tN ?_
      refine cSeq ?_
      refine cBlock ?_
      have him : i < m := by have h0 := of_decide_eq_true hc1; omega
      refine cReg ?_
      refine mV hTT _ rfl ?_
      refine mV hTT _ rfl ?_
      refine mV hTT _ rfl ?_
      refine mV hTT (.d (.one (.at 2 ((ael K f) i)))) (ixR (el := (ael K f)) (z := ((i : Nat) : Int)) (n := n) rfl rfl rfl rfl rfl rfl (by omega) (by omega)) ?_
      refine mV hTT (.d (.agg ([.v (.bool ((f i).1)), lr K ((f i).2)]))) rfl ?_
      refine mV hTT _ rfl ?_
      refine mC0 (aKInt (K := K) (k := k) (s := (f i).1) (xs := (f i).2) (by omega) (by omega)) rfl rfl rfl ?_
      refine mB hTT (.d (.one (.row 2 1 (fun i' j' => (([.v (.bool ((f i).1)), lr k (((f i).2).take k)])[i' * 2 + j']?).getD (.v undef))))) rfl ?_
      refine mA hTT (id := 7) (n := i) (m := 1) (el := (ael k (cutf k f))) (el2 := (fun i' j' => (([.v (.bool ((f i).1)), lr k (((f i).2).take k)])[i' * 2 + j']?).getD (.v undef))) rfl rfl rfl (by show (i + 1) * 32 ≤ 140737488355328; omega) (by omega) rfl rfl rfl rfl rfl rfl rfl rfl rfl rfl ?_
      refine mV hTT _ rfl ?_
      refine mNil ?_
      refine bN ?_
      refine tN ?_
      refine cReg ?_
      refine mV hTT _ rfl ?_
      refine mV hTT (.d (.one (.v (.int .i64 (IntKind.i64.wrap (((i : Nat) : Int) + 1)))))) rfl ?_
      refine mV hTT _ rfl ?_
      refine mNil ?_
      exact ⟨(i + 1), by omega, by omega, wk (sl := [(0, .d (.one (.row 2 n (ael K f)))), (1, .d (.one (.v (.int .i64 (m : Int))))), (2, .d (.one (.v (.int .i64 (k : Int))))), (8, .d (.one (.v (.int .i64 (((i + 1) : Nat) : Int))))), (7, .own 7)]) (hp := [(7, .row 26 2 (i + 1) (ael k (cutf k f)))]) rfl ⟨hs rfl, hs rfl, hs rfl, hs' rfl (le_int (inc64 (by omega))), hs rfl, trivial⟩ ⟨ho' rfl (app_a rfl (Nat.le_refl _) (Nat.le_refl _)), trivial⟩ rfl⟩
    · skip
      refine cExit ?_
      refine tE ?_
      refine tE ?_
      refine bE ?_
      refine tN ?_
      refine cSeq ?_
      have hie : min n m = i := by have h0 := of_decide_eq_false hc1; omega
      subst hie
      refine AW.wk (wkRow 7 rfl) ?_
      refine cReg ?_
      refine mV hTT _ rfl ?_
      refine mV hTT _ rfl ?_
      refine mNil ?_
      refine tN ?_
      refine cRet ?_
      exact rQ rfl (AV.le.rfl)
  · skip
    refine cReg ?_
    refine mV hTT _ rfl ?_
    refine mV hTT _ rfl ?_
    refine mV hTT (.d (.one (.v (.int .i64 (n : Int))))) rfl ?_
    refine mV hTT (.d (.one (.v (.bool false)))) (evb (decide_eq_false (by omega))) ?_
    refine mV hTT _ rfl ?_
    refine mG rfl rfl ?_
    refine mG rfl rfl ?_
    refine mG rfl rfl ?_
    refine mV hTT _ rfl ?_
    refine mNil ?_
    refine tN ?_
    refine cF rfl ?_
    refine cExit ?_
    refine tE ?_
    refine tE ?_
    refine bE ?_
    refine tN ?_
    refine cSeq ?_
    have hie : min n m = i := by skip; omega
    subst hie
    refine AW.wk (wkRow 7 rfl) ?_
    refine cReg ?_
    refine mV hTT _ rfl ?_
    refine mV hTT _ rfl ?_
    refine mNil ?_
    refine tN ?_
    refine cRet ?_
    exact rQ rfl (AV.le.rfl)

set_option maxRecDepth 100000 in
set_option maxHeartbeats 4000000 in
theorem aQZero : ACall Try.prog 80 [] (.d (.agg (qn 64 0))) := by
  refine acallN hTT 2 [.cell 0 43] Try.func80 rfl rfl rfl rfl rfl ?_
  refine cSeq ?_
  refine cReg ?_
  refine mN hTT (.box 43 ([.v (.slice none 0 0), .v (.bool false), .v (.slice none 0 0), .v (.bool false)])) rfl rfl rfl ?_
  refine mNil ?_
  refine tN ?_
  refine cSeq ?_
  refine cReg ?_
  refine mC0 (aROfI (n := 0) (by decide) (by decide)) rfl rfl rfl ?_
  refine mS hTT 0 (.box 43 (qn 64 ((0 : Int) : Rat))) rfl ?_
  refine mNil ?_
  refine tN ?_
  refine cRet ?_
  exact rQ rfl (le_qn (Nat.le_refl _) rfl)

set_option maxRecDepth 100000 in
set_option maxHeartbeats 4000000 in
theorem aQFrom {a : Lf} {K M n : Nat} {c : Nat → Int} (ha : IsP a K n c) (hM : max (3 * K) 64 ≤ M := by decide) (hn : n ≤ 1000000 := by decide) (hMM : M ≤ 10000000 := by decide) : ACall Try.prog 69 [.one a] (.d (.one (qrow M (dg (rc c) (n)) (rc c)))) := by
  obtain ⟨⟨fa, ha, ea⟩, za⟩ := ha
  refine ACall.le (dl (DV.l ha) dl0) AV.le.rfl ?_
  refine acallN hTT 23 [.tmp 2] Try.func69 rfl rfl rfl rfl rfl ?_
  refine cSeq ?_
  refine cReg ?_
  refine mV hTT _ rfl ?_
  refine mNil ?_
  refine tN ?_
  refine cSeq ?_
  refine cReg ?_
  refine mV hTT _ rfl ?_
  refine mNil ?_
  refine tN ?_
  refine cSeq ?_
  refine cSeq ?_
  refine AW.wk (wkNil 3 3 43 4 (fun _ _ => .v undef) rfl rfl) ?_
  refine cReg ?_
  refine mV hTT _ rfl ?_
  refine mV hTT (.d (.one (.v (.int .i64 (n : Int))))) rfl ?_
  refine mV hTT _ rfl ?_
  refine mNil ?_
  refine tN ?_
  refine cBlock ?_
  refine cLoop (ι := Nat) (fun (i : Nat) => ⟨23, [(0, .d (.one (.row 2 n (ael K fa)))), (5, .d (.one (.row 2 n (ael K fa)))), (6, .d (.one (.v (.int .i64 (n : Int))))), (7, .d (.one (.v (.int .i64 ((i : Nat) : Int))))), (3, .own 3)], [(3, .row 43 4 i (qel M (rc c)))]⟩) (fun (i : Nat) => i ≤ n) (fun (i : Nat) => n - i) 0 (Nat.zero_le _) (wk (sl := [(0, .d (.one (.row 2 n (ael K fa)))), (5, .d (.one (.row 2 n (ael K fa)))), (6, .d (.one (.v (.int .i64 (n : Int))))), (7, .d (.one (.v (.int .i64 ((0 : Nat) : Int))))), (3, .own 3)]) (hp := [(3, .row 43 4 0 (qel M (rc c)))]) rfl ⟨hs rfl, hs rfl, hs rfl, hs rfl, hs rfl, trivial⟩ ⟨ho' rfl (leo_row0), trivial⟩ rfl) ?_
  rintro i hI
  have hi : i ≤ n := hI
  show AW Try.prog _ _ ⟨23, [(0, .d (.one (.row 2 n (ael K fa)))), (5, .d (.one (.row 2 n (ael K fa)))), (6, .d (.one (.v (.int .i64 (n : Int))))), (7, .d (.one (.v (.int .i64 ((i : Nat) : Int))))), (3, .own 3)], [(3, .row 43 4 i (qel M (rc c)))]⟩
  refine cSeq ?_
  refine cReg ?_
  refine mV hTT (.d (.one (.v (.bool (decide (((i : Nat) : Int) < (n : Int))))))) rfl ?_
  refine mNil ?_
  refine tN ?_
  refine cSeq ?_
  refine cCond rfl (fun hc1 => ?_) (fun hc1 => ?_)
  · skip
    refine cSkip ?_
    refine tN ?_
    refine cSeq ?_
    refine cBlock ?_
    refine cSeq ?_
    refine cReg ?_
    refine mV hTT _ rfl ?_
    refine mV hTT _ rfl ?_
    refine mNil ?_
    refine tN ?_
    have hin : i < n := by have h0 := of_decide_eq_true hc1; omega
    refine cReg ?_
    refine mV hTT _ rfl ?_
    refine mV hTT _ rfl ?_
    refine mV hTT _ rfl ?_
    refine mV hTT (.d (.one (.at 2 ((ael K fa) i)))) (ixR (el := (ael K fa)) (z := ((i : Nat) : Int)) (n := n) rfl rfl rfl rfl rfl rfl (by omega) (by omega)) ?_
    refine mV hTT (.d (.agg ([.v (.bool ((fa i).1)), lr K ((fa i).2)]))) rfl ?_
    refine mC0 (aRFrom ⟨_, _, fun _ _ _ h => h, ea i (by omega)⟩ (M := (3 * K)) (by omega) (by omega)) rfl rfl rfl ?_
    refine mC0 (aROf (n := 1) (by decide) (by decide)) rfl rfl rfl ?_
    refine mC0 (aRMake (isr (3 * K) (c i)) (isr 64 1) (M := (max (3 * K) (max 64 64))) (by omega) (by omega)) rfl rfl rfl ?_
    refine mB hTT (.d (.one (.row 4 1 (fun i' j' => ((qn (max (3 * K) (max 64 64)) (mkR (c i) 1))[i' * 4 + j']?).getD (.v undef))))) rfl ?_
    refine mA hTT (id := 3) (n := i) (m := 1) (el := (qel M (rc c))) (el2 := (fun i' j' => ((qn (max (3 * K) (max 64 64)) (mkR (c i) 1))[i' * 4 + j']?).getD (.v undef))) rfl rfl rfl (by show (i + 1) * 64 ≤ 140737488355328; omega) (by omega) rfl rfl rfl rfl rfl rfl rfl rfl rfl rfl ?_
    refine mV hTT _ rfl ?_
    refine mNil ?_
    refine bN ?_
    refine tN ?_
    refine cReg ?_
    refine mV hTT (.d (.one (.v (.int .i64 (IntKind.i64.wrap (((i : Nat) : Int) + 1)))))) rfl ?_
    refine mV hTT _ rfl ?_
    refine mNil ?_
    exact ⟨(i + 1), by omega, by omega, wk (sl := [(0, .d (.one (.row 2 n (ael K fa)))), (5, .d (.one (.row 2 n (ael K fa)))), (6, .d (.one (.v (.int .i64 (n : Int))))), (7, .d (.one (.v (.int .i64 (((i + 1) : Nat) : Int))))), (3, .own 3)]) (hp := [(3, .row 43 4 (i + 1) (qel M (rc c)))]) rfl ⟨hs rfl, hs rfl, hs rfl, hs' rfl (le_int (inc64 (by omega))), hs rfl, trivial⟩ ⟨ho' rfl (app_q rfl (Nat.le_refl _) (by omega) (mkR_int _) (fun _ _ => rfl)), trivial⟩ rfl⟩
  · skip
    refine cExit ?_
    refine tE ?_
    refine tE ?_
    refine bE ?_
    refine tN ?_
    refine cSeq ?_
    have hie : n = i := by have h0 := of_decide_eq_false hc1; omega
    subst hie
    refine AW.wk (wkRow 3 rfl) ?_
    refine cReg ?_
    refine mV hTT _ rfl ?_
    refine mC0 (aQCut (K := M) (n := n) (c := (rc c)) (by omega)) rfl rfl rfl ?_
    refine mV hTT _ rfl ?_
    refine mNil ?_
    refine tN ?_
    refine cRet ?_
    exact rQ rfl (AV.le.rfl)

set_option maxRecDepth 100000 in
set_option maxHeartbeats 4000000 in
theorem aQOf {a : Lf} {n : Nat} {c : Nat → Int} (ha : IsI a n c) (hb : ∀ i, i < n → -9223372036854775808 ≤ c i ∧ c i ≤ 9223372036854775807) (hn : n ≤ 1000000 := by decide) : ACall Try.prog 24 [.one a] (.d (.one (qrow 64 (dg (rc c) (n)) (rc c)))) := by
  obtain ⟨ha, za⟩ := ha
  refine ACall.le (dl (DV.l ha) dl0) AV.le.rfl ?_
  refine acallN hTT 21 [.tmp 2] Try.func24 rfl rfl rfl rfl rfl ?_
  refine cSeq ?_
  refine cReg ?_
  refine mV hTT _ rfl ?_
  refine mNil ?_
  refine tN ?_
  refine cSeq ?_
  refine cReg ?_
  refine mV hTT _ rfl ?_
  refine mNil ?_
  refine tN ?_
  refine cSeq ?_
  refine cSeq ?_
  refine AW.wk (wkNil 3 3 43 4 (fun _ _ => .v undef) rfl rfl) ?_
  refine cReg ?_
  refine mV hTT _ rfl ?_
  refine mV hTT (.d (.one (.v (.int .i64 (n : Int))))) rfl ?_
  refine mV hTT _ rfl ?_
  refine mNil ?_
  refine tN ?_
  refine cBlock ?_
  refine cLoop (ι := Nat) (fun (i : Nat) => ⟨21, [(0, .d (.one (.row 1 n (fun i _ => .v (.int .i64 (c i)))))), (5, .d (.one (.row 1 n (fun i _ => .v (.int .i64 (c i)))))), (6, .d (.one (.v (.int .i64 (n : Int))))), (7, .d (.one (.v (.int .i64 ((i : Nat) : Int))))), (3, .own 3)], [(3, .row 43 4 i (qel 64 (rc c)))]⟩) (fun (i : Nat) => i ≤ n) (fun (i : Nat) => n - i) 0 (Nat.zero_le _) (wk (sl := [(0, .d (.one (.row 1 n (fun i _ => .v (.int .i64 (c i)))))), (5, .d (.one (.row 1 n (fun i _ => .v (.int .i64 (c i)))))), (6, .d (.one (.v (.int .i64 (n : Int))))), (7, .d (.one (.v (.int .i64 ((0 : Nat) : Int))))), (3, .own 3)]) (hp := [(3, .row 43 4 0 (qel 64 (rc c)))]) rfl ⟨hs rfl, hs rfl, hs rfl, hs rfl, hs rfl, trivial⟩ ⟨ho' rfl (leo_row0), trivial⟩ rfl) ?_
  rintro i hI
  have hi : i ≤ n := hI
  show AW Try.prog _ _ ⟨21, [(0, .d (.one (.row 1 n (fun i _ => .v (.int .i64 (c i)))))), (5, .d (.one (.row 1 n (fun i _ => .v (.int .i64 (c i)))))), (6, .d (.one (.v (.int .i64 (n : Int))))), (7, .d (.one (.v (.int .i64 ((i : Nat) : Int))))), (3, .own 3)], [(3, .row 43 4 i (qel 64 (rc c)))]⟩
  refine cSeq ?_
  refine cReg ?_
  refine mV hTT (.d (.one (.v (.bool (decide (((i : Nat) : Int) < (n : Int))))))) rfl ?_
  refine mNil ?_
  refine tN ?_
  refine cSeq ?_
  refine cCond rfl (fun hc1 => ?_) (fun hc1 => ?_)
  · skip
    refine cSkip ?_
    refine tN ?_
    refine cSeq ?_
    refine cBlock ?_
    refine cSeq ?_
    refine cReg ?_
    refine mV hTT _ rfl ?_
    refine mV hTT _ rfl ?_
    refine mNil ?_
    refine tN ?_
    have hin : i < n := by have h0 := of_decide_eq_true hc1; omega
    refine cReg ?_
    refine mV hTT _ rfl ?_
    refine mV hTT _ rfl ?_
    refine mV hTT _ rfl ?_
    refine mV hTT (.d (.one (.at 1 ((fun i _ => .v (.int .i64 (c i))) i)))) (ixR (el := (fun i _ => .v (.int .i64 (c i)))) (z := ((i : Nat) : Int)) (n := n) rfl rfl rfl rfl rfl rfl (by omega) (by omega)) ?_
    refine mV hTT (.d (.one (.v (.int .i64 (c i))))) rfl ?_
    refine mC0 (aROfI (n := c i) (hb i hin).1 (hb i hin).2) rfl rfl rfl ?_
    refine mB hTT (.d (.one (.row 4 1 (fun i' j' => ((qn 64 ((c i : Int) : Rat))[i' * 4 + j']?).getD (.v undef))))) rfl ?_
    refine mA hTT (id := 3) (n := i) (m := 1) (el := (qel 64 (rc c))) (el2 := (fun i' j' => ((qn 64 ((c i : Int) : Rat))[i' * 4 + j']?).getD (.v undef))) rfl rfl rfl (by show (i + 1) * 64 ≤ 140737488355328; omega) (by omega) rfl rfl rfl rfl rfl rfl rfl rfl rfl rfl ?_
    refine mV hTT _ rfl ?_
    refine mNil ?_
    refine bN ?_
    refine tN ?_
    refine cReg ?_
    refine mV hTT (.d (.one (.v (.int .i64 (IntKind.i64.wrap (((i : Nat) : Int) + 1)))))) rfl ?_
    refine mV hTT _ rfl ?_
    refine mNil ?_
    exact ⟨(i + 1), by omega, by omega, wk (sl := [(0, .d (.one (.row 1 n (fun i _ => .v (.int .i64 (c i)))))), (5, .d (.one (.row 1 n (fun i _ => .v (.int .i64 (c i)))))), (6, .d (.one (.v (.int .i64 (n : Int))))), (7, .d (.one (.v (.int .i64 (((i + 1) : Nat) : Int))))), (3, .own 3)]) (hp := [(3, .row 43 4 (i + 1) (qel 64 (rc c)))]) rfl ⟨hs rfl, hs rfl, hs rfl, hs' rfl (le_int (inc64 (by omega))), hs rfl, trivial⟩ ⟨ho' rfl (app_q rfl (Nat.le_refl _) (Nat.le_refl _) rfl (fun _ _ => rfl)), trivial⟩ rfl⟩
  · skip
    refine cExit ?_
    refine tE ?_
    refine tE ?_
    refine bE ?_
    refine tN ?_
    refine cSeq ?_
    have hie : n = i := by have h0 := of_decide_eq_false hc1; omega
    subst hie
    refine AW.wk (wkRow 3 rfl) ?_
    refine cReg ?_
    refine mV hTT _ rfl ?_
    refine mC0 (aQCut (K := 64) (n := n) (c := (rc c)) (by omega)) rfl rfl rfl ?_
    refine mV hTT _ rfl ?_
    refine mNil ?_
    refine tN ?_
    refine cRet ?_
    exact rQ rfl (AV.le.rfl)

set_option maxRecDepth 100000 in
set_option maxHeartbeats 4000000 in
theorem aQAt {a : Lf} {K M n k : Nat} {c : Nat → Rat} (ha : IsQP a K n c) (hM : max K 64 ≤ M := by decide) : ACall Try.prog 78 [.one a, .one (.v (.int .i64 (k : Int)))] (.d (.agg (qn M (c k)))) := by
  obtain ⟨ha, za⟩ := ha
  refine ACall.le (dl (DV.l ha) (dl DV.same dl0)) AV.le.rfl ?_
  refine acallN hTT 18 [.cell 4 43] Try.func78 rfl rfl rfl rfl rfl ?_
  refine cSeq ?_
  refine cReg ?_
  refine mN hTT (.box 43 ([.v (.slice none 0 0), .v (.bool false), .v (.slice none 0 0), .v (.bool false)])) rfl rfl rfl ?_
  refine mNil ?_
  refine tN ?_
  refine cSeq ?_
  refine cSeq ?_
  refine cReg ?_
  refine mV hTT _ rfl ?_
  refine mV hTT (.d (.one (.v (.bool false)))) (evb (decide_eq_false (by omega))) ?_
  refine mV hTT _ rfl ?_
  refine mV hTT _ rfl ?_
  refine mV hTT _ rfl ?_
  refine mV hTT (.d (.one (.v (.int .i64 (n : Int))))) rfl ?_
  refine mV hTT (.d (.one (.v (.bool (decide ((k : Int) ≥ (n : Int))))))) rfl ?_
  refine mV hTT _ rfl ?_
  refine mNil ?_
  refine tN ?_
  refine cCond rfl (fun hc1 => ?_) (fun hc1 => ?_)
  · skip
    refine cSeq ?_
    refine cReg ?_
    refine mC0 (aQZero) rfl rfl rfl ?_
    refine mS hTT 4 (.box 43 (qn 64 0)) rfl ?_
    refine mNil ?_
    refine tN ?_
    refine cRet ?_
    refine tR ?_
    exact rQ rfl (le_qn (by omega) (za k (by have h0 := of_decide_eq_true hc1; omega)).symm)
  · skip
    refine cSkip ?_
    refine tN ?_
    refine cSeq ?_
    have hkn : k < n := by have h0 := of_decide_eq_false hc1; omega
    refine cReg ?_
    refine mV hTT _ rfl ?_
    refine mV hTT _ rfl ?_
    refine mV hTT (.d (.one (.at 4 ((qel K c) k)))) (ixR (el := (qel K c)) (z := (k : Int)) (n := n) rfl rfl rfl rfl rfl rfl (by omega) (by omega)) ?_
    refine mV hTT (.d (.agg (qn K (c k)))) rfl ?_
    refine mS hTT 4 (.box 43 (qn K (c k))) rfl ?_
    refine mNil ?_
    refine tN ?_
    refine cRet ?_
    exact rQ rfl (le_qn (by omega) rfl)

set_option maxRecDepth 100000 in
set_option maxHeartbeats 4000000 in
theorem aQAdd {a b : Lf} {K L M n m : Nat} {c d : Nat → Rat} (ha : IsQP a K n c) (hb : IsQP b L m d) (hM : max (max K 64 + max L 64 + 1) 64 ≤ M := by decide) (hn : max n m ≤ 1000000 := by decide) (hMM : M ≤ 10000000 := by decide) : ACall Try.prog 19 [.one a, .one b] (.d (.one (qrow M (dg (faddQ c d) (max n m)) (faddQ c d)))) := by
  obtain ⟨ha, za⟩ := ha
  obtain ⟨hb, zb⟩ := hb
  refine ACall.le (dl (DV.l ha) (dl (DV.l hb) dl0)) AV.le.rfl ?_
  refine acallN hTT 28 [.tmp 4] Try.func19 rfl rfl rfl rfl rfl ?_
  refine cSeq ?_
  refine cReg ?_
  refine mV hTT _ rfl ?_
  refine mNil ?_
  refine tN ?_
  refine cSeq ?_
  refine cReg ?_
  refine mV hTT _ rfl ?_
  refine mNil ?_
  refine tN ?_
  refine cSeq ?_
  refine cSeq ?_
  refine AW.wk (wkNil 5 5 43 4 (fun _ _ => .v undef) rfl rfl) ?_
  refine cReg ?_
  refine mV hTT _ rfl ?_
  refine mNil ?_
  refine tN ?_
  refine cBlock ?_
  refine cLoop (ι := Nat) (fun (i : Nat) => ⟨28, [(0, .d (.one (.row 4 n (qel K c)))), (1, .d (.one (.row 4 m (qel L d)))), (6, .d (.one (.v (.int .i64 ((i : Nat) : Int))))), (5, .own 5)], [(5, .row 43 4 i (qel M (faddQ c d)))]⟩) (fun (i : Nat) => i ≤ (max n m)) (fun (i : Nat) => (max n m) - i) 0 (Nat.zero_le _) (wk (sl := [(0, .d (.one (.row 4 n (qel K c)))), (1, .d (.one (.row 4 m (qel L d)))), (6, .d (.one (.v (.int .i64 ((0 : Nat) : Int))))), (5, .own 5)]) (hp := [(5, .row 43 4 0 (qel M (faddQ c d)))]) rfl ⟨hs rfl, hs rfl, hs rfl, hs rfl, trivial⟩ ⟨ho' rfl (leo_row0), trivial⟩ rfl) ?_
  rintro i hI
  have hi : i ≤ (max n m) := hI
  show AW Try.prog _ _ ⟨28, [(0, .d (.one (.row 4 n (qel K c)))), (1, .d (.one (.row 4 m (qel L d)))), (6, .d (.one (.v (.int .i64 ((i : Nat) : Int))))), (5, .own 5)], [(5, .row 43 4 i (qel M (faddQ c d)))]⟩
  refine cSeq ?_
  refine cSeq ?_
  refine cReg ?_
  refine mV hTT _ rfl ?_
  refine mV hTT _ rfl ?_
  refine mV hTT (.d (.one (.v (.int .i64 (n : Int))))) rfl ?_
  refine mV hTT _ rfl ?_
  refine mV hTT (.d (.one (.v (.int .i64 (m : Int))))) rfl ?_
  refine mV hTT (.d (.one (.v (.int .i64 ((max n m : Nat) : Int))))) (evi (maxNN n m)) ?_
  refine mV hTT (.d (.one (.v (.bool (decide (((i : Nat) : Int) < ((max n m : Nat) : Int))))))) rfl ?_
  refine mNil ?_
  refine tN ?_
  refine cCond rfl (fun hc1 => ?_) (fun hc1 => ?_)
  · skip
    refine cSkip ?_
    refine tN ?_
    refine cSeq ?_
    refine cBlock ?_
    have hin : i < (max n m) := by have h0 := of_decide_eq_true hc1; omega
    refine cReg ?_
    refine mV hTT _ rfl ?_
    refine mV hTT _ rfl ?_
    refine mV hTT _ rfl ?_
    refine mC0 (aQAt (isqp (K := K) za) (k := i) (M := (max K 64)) (by omega)) rfl rfl rfl ?_
    refine mV hTT _ rfl ?_
    refine mV hTT _ rfl ?_
    refine mC0 (aQAt (isqp (K := L) zb) (k := i) (M := (max L 64)) (by omega)) rfl rfl rfl ?_
    refine mC0 (aRAddR (isq (max K 64) (c i)) (isq (max L 64) (d i)) (M := (max ((max K 64) + (max L 64) + 1) 64)) (by omega) (by omega)) rfl rfl rfl ?_
    refine mB hTT (.d (.one (.row 4 1 (fun i' j' => ((qn (max ((max K 64) + (max L 64) + 1) 64) ((c i) + (d i)))[i' * 4 + j']?).getD (.v undef))))) rfl ?_
    refine mA hTT (id := 5) (n := i) (m := 1) (el := (qel M (faddQ c d))) (el2 := (fun i' j' => ((qn (max ((max K 64) + (max L 64) + 1) 64) ((c i) + (d i)))[i' * 4 + j']?).getD (.v undef))) rfl rfl rfl (by show (i + 1) * 64 ≤ 140737488355328; omega) (by omega) rfl rfl rfl rfl rfl rfl rfl rfl rfl rfl ?_
    refine mV hTT _ rfl ?_
    refine mNil ?_
    refine bN ?_
    refine tN ?_
    refine cReg ?_
    refine mV hTT _ rfl ?_
    refine mV hTT (.d (.one (.v (.int .i64 (IntKind.i64.wrap (((i : Nat) : Int) + 1)))))) rfl ?_
    refine mV hTT _ rfl ?_
    refine mNil ?_
    exact ⟨(i + 1), by omega, by omega, wk (sl := [(0, .d (.one (.row 4 n (qel K c)))), (1, .d (.one (.row 4 m (qel L d)))), (6, .d (.one (.v (.int .i64 (((i + 1) : Nat) : Int))))), (5, .own 5)]) (hp := [(5, .row 43 4 (i + 1) (qel M (faddQ c d)))]) rfl ⟨hs rfl, hs rfl, hs' rfl (le_int (inc64 (by omega))), hs rfl, trivial⟩ ⟨ho' rfl (app_q rfl (Nat.le_refl _) (by omega) rfl (fun _ _ => rfl)), trivial⟩ rfl⟩
  · skip
    refine cExit ?_
    refine tE ?_
    refine tE ?_
    refine bE ?_
    refine tN ?_
    refine cSeq ?_
    have hie : (max n m) = i := by have h0 := of_decide_eq_false hc1; omega
    subst hie
    refine AW.wk (wkRow 5 rfl) ?_
    refine cReg ?_
    refine mV hTT _ rfl ?_
    refine mC0 (aQCut (K := M) (n := (max n m)) (c := (faddQ c d)) (by omega)) rfl rfl rfl ?_
    refine mV hTT _ rfl ?_
    refine mNil ?_
    refine tN ?_
    refine cRet ?_
    exact rQ rfl (AV.le.rfl)

set_option maxRecDepth 100000 in
set_option maxHeartbeats 4000000 in
theorem aQScale {a : Lf} {b : List Lf} {K L M n : Nat} {c : Nat → Rat} {q : Rat} (ha : IsQP a K n c) (hq : IsQ b L q) (hM : max (K + L + 1) 64 ≤ M := by decide) (hn : n ≤ 1000000 := by decide) (hMM : M ≤ 10000000 := by decide) : ACall Try.prog 21 [.one a, .agg b] (.d (.one (qrow M (dg (fsclQ c q) (n)) (fsclQ c q)))) := by
  obtain ⟨ha, za⟩ := ha
  refine ACall.le (dl (DV.l ha) (dl (DV.g hq) dl0)) AV.le.rfl ?_
  refine acallN hTT 24 [.tmp 4] Try.func21 rfl rfl rfl rfl rfl ?_
  refine cSeq ?_
  refine cReg ?_
  refine mN hTT (.box 43 (qn L q)) rfl rfl rfl ?_
  refine mV hTT _ rfl ?_
  refine mNil ?_
  refine tN ?_
  refine cSeq ?_
  refine cReg ?_
  refine mV hTT _ rfl ?_
  refine mNil ?_
  refine tN ?_
  refine cSeq ?_
  refine cSeq ?_
  refine AW.wk (wkNil 5 5 43 4 (fun _ _ => .v undef) rfl rfl) ?_
  refine cReg ?_
  refine mV hTT _ rfl ?_
  refine mV hTT (.d (.one (.v (.int .i64 (n : Int))))) rfl ?_
  refine mV hTT _ rfl ?_
  refine mNil ?_
  refine tN ?_
  refine cBlock ?_
  refine cLoop (ι := Nat) (fun (i : Nat) => ⟨24, [(0, .d (.one (.row 4 n (qel K c)))), (7, .d (.one (.row 4 n (qel K c)))), (8, .d (.one (.v (.int .i64 (n : Int))))), (3, .ptr 3 0), (9, .d (.one (.v (.int .i64 ((i : Nat) : Int))))), (5, .own 5)], [(3, .box 43 (qn L q)), (5, .row 43 4 i (qel M (fsclQ c q)))]⟩) (fun (i : Nat) => i ≤ n) (fun (i : Nat) => n - i) 0 (Nat.zero_le _) (wk (sl := [(0, .d (.one (.row 4 n (qel K c)))), (7, .d (.one (.row 4 n (qel K c)))), (8, .d (.one (.v (.int .i64 (n : Int))))), (3, .ptr 3 0), (9, .d (.one (.v (.int .i64 ((0 : Nat) : Int))))), (5, .own 5)]) (hp := [(3, .box 43 (qn L q)), (5, .row 43 4 0 (qel M (fsclQ c q)))]) rfl ⟨hs rfl, hs rfl, hs rfl, hs rfl, hs rfl, hs rfl, trivial⟩ ⟨ho rfl, ho' rfl (leo_row0), trivial⟩ rfl) ?_
  rintro i hI
  have hi : i ≤ n := hI
  show AW Try.prog _ _ ⟨24, [(0, .d (.one (.row 4 n (qel K c)))), (7, .d (.one (.row 4 n (qel K c)))), (8, .d (.one (.v (.int .i64 (n : Int))))), (3, .ptr 3 0), (9, .d (.one (.v (.int .i64 ((i : Nat) : Int))))), (5, .own 5)], [(3, .box 43 (qn L q)), (5, .row 43 4 i (qel M (fsclQ c q)))]⟩
  refine cSeq ?_
  refine cReg ?_
  refine mV hTT (.d (.one (.v (.bool (decide (((i : Nat) : Int) < (n : Int))))))) rfl ?_
  refine mNil ?_
  refine tN ?_
  refine cSeq ?_
  refine cCond rfl (fun hc1 => ?_) (fun hc1 => ?_)
  · skip
    refine cSkip ?_
    refine tN ?_
    refine cSeq ?_
    refine cBlock ?_
    refine cSeq ?_
    refine cReg ?_
    refine mV hTT _ rfl ?_
    refine mV hTT _ rfl ?_
    refine mNil ?_
    refine tN ?_
    have hin : i < n := by have h0 := of_decide_eq_true hc1; omega
    refine cDrawK hTT 8 (by kernel_rfl) (by kernel_rfl) ?_
    refine .cons (OpS.V _ rfl) ?_
    refine .cons (OpS.V _ rfl) ?_
    refine .cons (OpS.V _ rfl) ?_
    refine .cons (OpS.V (.d (.one (.at 4 ((qel K c) i)))) (ixR (el := (qel K c)) (z := ((i : Nat) : Int)) (n := n) rfl rfl rfl rfl rfl rfl (by omega) (by omega))) ?_
    refine .cons (OpS.V (.d (.agg (qn K (c i)))) rfl) ?_
    refine .cons (OpS.V (.d (.agg (qn L q))) rfl) ?_
    refine .cons (OpS.C0 (aRMulR (isq K (c i)) (isq L q) (M := (max (K + L + 1) 64)) (by omega) (by omega)) rfl rfl rfl) ?_
    refine .cons (OpS.B _ rfl) ?_
    refine .nil ?_
    refine mA hTT (id := 5) (n := i) (m := 1) (el := (qel M (fsclQ c q))) (el2 := (fun i' j' => ((qn (max (K + L + 1) 64) ((c i) * q))[i' * 4 + j']?).getD (.v undef))) rfl rfl rfl (by show (i + 1) * 64 ≤ 140737488355328; omega) (by omega) rfl rfl rfl rfl rfl rfl rfl rfl rfl rfl ?_
    refine mV hTT _ rfl ?_
    refine mNil ?_
    refine bN ?_
    refine tN ?_
    refine cReg ?_
    refine mV hTT (.d (.one (.v (.int .i64 (IntKind.i64.wrap (((i : Nat) : Int) + 1)))))) rfl ?_
    refine mV hTT _ rfl ?_
    refine mNil ?_
    exact ⟨(i + 1), by omega, by omega, wk (sl := [(0, .d (.one (.row 4 n (qel K c)))), (7, .d (.one (.row 4 n (qel K c)))), (8, .d (.one (.v (.int .i64 (n : Int))))), (3, .ptr 3 0), (9, .d (.one (.v (.int .i64 (((i + 1) : Nat) : Int))))), (5, .own 5)]) (hp := [(3, .box 43 (qn L q)), (5, .row 43 4 (i + 1) (qel M (fsclQ c q)))]) rfl ⟨hs rfl, hs rfl, hs rfl, hs rfl, hs' rfl (le_int (inc64 (by omega))), hs rfl, trivial⟩ ⟨ho rfl, ho' rfl (app_q rfl (Nat.le_refl _) (by omega) rfl (fun _ _ => rfl)), trivial⟩ rfl⟩
  · skip
    refine cExit ?_
    refine tE ?_
    refine tE ?_
    refine bE ?_
    refine tN ?_
    refine cSeq ?_
    have hie : n = i := by have h0 := of_decide_eq_false hc1; omega
    subst hie
    refine AW.wk (wkRow 5 rfl) ?_
    refine cReg ?_
    refine mV hTT _ rfl ?_
    refine mC0 (aQCut (K := M) (n := n) (c := (fsclQ c q)) (by omega)) rfl rfl rfl ?_
    refine mV hTT _ rfl ?_
    refine mNil ?_
    refine tN ?_
    refine cRet ?_
    exact rQ rfl (AV.le.rfl)

set_option maxRecDepth 100000 in
set_option maxHeartbeats 4000000 in
theorem aQSame {a b : Lf} {K L n : Nat} {c : Nat → Int} (ha : ∀ B w v, LfR B w a v → LfR B w (qrow K n (rc c)) v) (hb : ∀ B w v, LfR B w b v → LfR B w (prow L n c) v) (hn : n ≤ 1000000 := by decide) (hK : K ≤ 10000000 := by decide) (hL : L ≤ 1000000000 := by decide) : ACall Try.prog 83 [.one a, .one b] (.d (.one (.v (.bool true)))) := by
  refine ACall.le (dl (DV.l ha) (dl (DV.l hb) dl0)) AV.le.rfl ?_
  refine acallN hTT 38 [.tmp 4] Try.func83 rfl rfl rfl rfl rfl ?_
  refine cSeq ?_
  refine cReg ?_
  refine mV hTT _ rfl ?_
  refine mNil ?_
  refine tN ?_
  refine cSeq ?_
  refine cSeq ?_
  refine cReg ?_
  refine mV hTT _ rfl ?_
  refine mV hTT (.d (.one (.v (.int .i64 (n : Int))))) rfl ?_
  refine mV hTT _ rfl ?_
  refine mV hTT (.d (.one (.v (.int .i64 (n : Int))))) rfl ?_
  refine mV hTT (.d (.one (.v (.bool false)))) (evb (bne_self_eq_false _)) ?_
  refine mNil ?_
  refine tN ?_
  refine cF rfl ?_
  refine cSkip ?_
  refine tN ?_
  refine cSeq ?_
  refine cSeq ?_
  refine cReg ?_
  refine mV hTT _ rfl ?_
  refine mV hTT (.d (.one (.v (.int .i64 (n : Int))))) rfl ?_
  refine mV hTT _ rfl ?_
  refine mNil ?_
  refine tN ?_
  refine cBlock ?_
  refine cLoop (ι := Nat) (fun (i : Nat) => ⟨38, [(0, .d (.one (.row 4 n (qel K (rc c))))), (1, .d (.one (.row 2 n (zel L c)))), (12, .d (.one (.v (.int .i64 (n : Int))))), (13, .d (.one (.v (.int .i64 ((i : Nat) : Int)))))], []⟩) (fun (i : Nat) => i ≤ n) (fun (i : Nat) => n - i) 0 (Nat.zero_le _) (wk (sl := [(0, .d (.one (.row 4 n (qel K (rc c))))), (1, .d (.one (.row 2 n (zel L c)))), (12, .d (.one (.v (.int .i64 (n : Int))))), (13, .d (.one (.v (.int .i64 ((0 : Nat) : Int)))))]) (hp := []) rfl ⟨hs rfl, hs rfl, hs rfl, hs rfl, trivial⟩ trivial rfl) ?_
  rintro i hI
  have hi : i ≤ n := hI
  show AW Try.prog _ _ ⟨38, [(0, .d (.one (.row 4 n (qel K (rc c))))), (1, .d (.one (.row 2 n (zel L c)))), (12, .d (.one (.v (.int .i64 (n : Int))))), (13, .d (.one (.v (.int .i64 ((i : Nat) : Int)))))], []⟩
  refine cSeq ?_
  refine cReg ?_
  refine mV hTT (.d (.one (.v (.bool (decide (((i : Nat) : Int) < (n : Int))))))) rfl ?_
  refine mNil ?_
  refine tN ?_
  refine cSeq ?_
  refine cCond rfl (fun hc1 => ?_) (fun hc1 => ?_)
  · skip
    refine cSkip ?_
    refine tN ?_
    refine cSeq ?_
    refine cBlock ?_
    refine cSeq ?_
    refine cReg ?_
    refine mV hTT _ rfl ?_
    refine mV hTT _ rfl ?_
    refine mNil ?_
    refine tN ?_
    refine cSeq ?_
    have hin : i < n := by have h0 := of_decide_eq_true hc1; omega
    refine cDrawK hTT 21 (by kernel_rfl) (by kernel_rfl) ?_
    refine .cons (OpS.V _ rfl) ?_
    refine .cons (OpS.V _ rfl) ?_
    refine .cons (OpS.V (.d (.one (.at 4 ((qel K (rc c)) i)))) (ixR (el := (qel K (rc c))) (z := ((i : Nat) : Int)) (n := n) rfl rfl rfl rfl rfl rfl (by omega) (by omega))) ?_
    refine .cons (OpS.V _ rfl) ?_
    refine .cons (OpS.V (.d (.agg (rn K (Rat.num ((rc c) i))))) rfl) ?_
    refine .cons (OpS.V _ rfl) ?_
    refine .cons (OpS.V _ rfl) ?_
    refine .cons (OpS.V (.d (.one (.at 2 ((zel L c) i)))) (ixR (el := (zel L c)) (z := ((i : Nat) : Int)) (n := n) rfl rfl rfl rfl rfl rfl (by omega) (by omega))) ?_
    refine .cons (OpS.V (.d (.agg (zn L (c i)))) rfl) ?_
    refine .cons (OpS.C0 (aRSame (IsR.eq (isr K (Rat.num ((rc c) i))) (Rat.num_intCast _)) (isn L (c i)) (by omega) (by omega)) rfl rfl rfl) ?_
    refine .cons (OpS.V (.d (.one (.v (.bool false)))) rfl) ?_
    refine .cons (OpS.V _ rfl) ?_
    refine .cons (OpS.V _ rfl) ?_
    refine .cons (OpS.V _ rfl) ?_
    refine .cons (OpS.V (.d (.one (.at 4 ((qel K (rc c)) i)))) (ixR (el := (qel K (rc c))) (z := ((i : Nat) : Int)) (n := n) rfl rfl rfl rfl rfl rfl (by omega) (by omega))) ?_
    refine .cons (OpS.V _ rfl) ?_
    refine .cons (OpS.V (.d (.agg (rn K (Rat.den ((rc c) i) : Int)))) rfl) ?_
    refine .cons (OpS.C0 (aROf (n := 1) (by decide) (by decide)) rfl rfl rfl) ?_
    refine .cons (OpS.C0 (aRCmp (isr K (Rat.den ((rc c) i) : Int)) (isr 64 1) (by omega) (by decide)) rfl rfl rfl) ?_
    refine .cons (OpS.V (.d (.one (.v (.bool false)))) (evb (by show (cmpZ ((rc c i).den : Int) 1 != 0) = false; unfold rc; rw [Rat.den_intCast]; rfl))) ?_
    refine .cons (OpS.V _ rfl) ?_
    refine .nil ?_
    refine mNil ?_
    refine tN ?_
    refine cF rfl ?_
    refine cSkip ?_
    refine bN ?_
    refine tN ?_
    refine cReg ?_
    refine mV hTT (.d (.one (.v (.int .i64 (IntKind.i64.wrap (((i : Nat) : Int) + 1)))))) rfl ?_
    refine mV hTT _ rfl ?_
    refine mNil ?_
    exact ⟨(i + 1), by omega, by omega, wk (sl := [(0, .d (.one (.row 4 n (qel K (rc c))))), (1, .d (.one (.row 2 n (zel L c)))), (12, .d (.one (.v (.int .i64 (n : Int))))), (13, .d (.one (.v (.int .i64 (((i + 1) : Nat) : Int)))))]) (hp := []) rfl ⟨hs rfl, hs rfl, hs rfl, hs' rfl (le_int (inc64 (by omega))), trivial⟩ trivial rfl⟩
  · skip
    refine cExit ?_
    refine tE ?_
    refine tE ?_
    refine bE ?_
    refine tN ?_
    refine cSeq ?_
    refine cReg ?_
    refine mV hTT _ rfl ?_
    refine mNil ?_
    refine tN ?_
    refine cRet ?_
    exact rQ rfl (AV.le.rfl)

end Go.Proofs.Ytnnpjkalkfoolaa
