/-
  POLYNOMIALS, by the machine (2): the plain reckoning; what is handed in, cut.
-/
import Derived.Test.YtcnfblffeghboaaGreatJ3
set_option linter.unusedVariables false
set_option linter.unusedSimpArgs false
namespace Go.Proofs.YtcnfblffeghboaaGreat
open Go.RowKit

set_option maxRecDepth 100000 in
set_option maxHeartbeats 4000000 in
theorem aKInt {K k : Nat} {s : Bool} {xs : List Nat} (hk : k ≤ 1000000 := by decide) (hK : K ≤ 9223372036854775807 := by decide) : ACall Tryz.prog 23 [.agg [.v (.bool s), lr K xs], .one (.v (.int .i64 (k : Int)))] (.d (.agg [.v (.bool s), lr k (xs.take k)])) := by
  refine acallN hTT 12 [.cell 4 26] Tryz.func23 rfl rfl rfl rfl rfl ?_
  refine cSeq ?_
  refine cReg ?_
  refine mN hTT (.box 26 ([.v (.bool s), lr K xs])) rfl rfl rfl ?_
  refine mN hTT (.box 26 ([.v (.bool false), .v (.slice none 0 0)])) rfl rfl rfl ?_
  refine mNil ?_
  refine tN ?_
  refine cSeq ?_
  refine cDrawK hTT 7 (by kernel_rfl) (by kernel_rfl) (by kernel_rfl) ?_
  refine .cons (OpS.V (.ptr 2 0) rfl) ?_
  refine .cons (OpS.V (.d (.one (.v (.bool s)))) rfl) ?_
  refine .cons (OpS.V (.ptr 2 1) rfl) ?_
  refine .cons (OpS.V (.d (.one (lr K xs))) rfl) ?_
  refine .cons (OpS.V _ rfl) ?_
  refine .cons (OpS.C0 (aRow (K := K) (k := k) (xs := xs) (by omega) (by omega)) rfl rfl rfl) ?_
  refine .cons (OpS.V (.d (.agg ([.v (.bool s), lr k (xs.take k)]))) rfl) ?_
  refine .nil ?_
  refine mS hTT 4 (.box 26 ([.v (.bool s), lr k (xs.take k)])) rfl ?_
  refine mNil ?_
  refine tN ?_
  refine cRet ?_
  exact rQ rfl (AV.le.rfl)

set_option maxRecDepth 100000 in
set_option maxHeartbeats 4000000 in
theorem aKPoly {K n m k : Nat} {f : Nat → Bool × List Nat} (hm : m ≤ 1000 := by decide) (hk : k ≤ 1000 := by decide) (hK : K ≤ 9223372036854775807 := by decide) : ACall Tryz.prog 22 [.one (arow K n f), .one (.v (.int .i64 (m : Int))), .one (.v (.int .i64 (k : Int)))] (.d (.one (arow k (min n m) (cutf k f)))) := by
  refine acallN hTT 30 [.tmp 6] Tryz.func22 rfl rfl rfl rfl rfl ?_
  refine cSeq ?_
  refine cReg ?_
  refine mV hTT _ rfl ?_
  refine mNil ?_
  refine tN ?_
  refine cSeq ?_
  refine cReg ?_
  refine mV hTT _ rfl ?_
  refine mNil ?_
  refine tN ?_
  refine cSeq ?_
  refine cSeq ?_
  refine AW.wk (wkNil 7 7 26 2 (fun _ _ => .v undef) rfl rfl) ?_
  refine cReg ?_
  refine mV hTT _ rfl ?_
  refine mNil ?_
  refine tN ?_
  refine cBlock ?_
  refine cLoop (ι := Nat) (fun (i : Nat) => ⟨30, [(0, .d (.one (.row 2 n (ael K f)))), (1, .d (.one (.v (.int .i64 (m : Int))))), (2, .d (.one (.v (.int .i64 (k : Int))))), (8, .d (.one (.v (.int .i64 ((i : Nat) : Int))))), (7, .own 7)], [(7, .row 26 2 i (ael k (cutf k f)))]⟩) (fun (i : Nat) => i ≤ min n m) (fun (i : Nat) => min n m - i) 0 (Nat.zero_le _) (wk (sl := [(0, .d (.one (.row 2 n (ael K f)))), (1, .d (.one (.v (.int .i64 (m : Int))))), (2, .d (.one (.v (.int .i64 (k : Int))))), (8, .d (.one (.v (.int .i64 ((0 : Nat) : Int))))), (7, .own 7)]) (hp := [(7, .row 26 2 0 (ael k (cutf k f)))]) rfl ⟨hs rfl, hs rfl, hs rfl, hs rfl, hs rfl, trivial⟩ ⟨ho' rfl (leo_row0), trivial⟩ rfl) ?_
  rintro i hI
  have hi : i ≤ min n m := hI
  show AW Tryz.prog _ _ ⟨30, [(0, .d (.one (.row 2 n (ael K f)))), (1, .d (.one (.v (.int .i64 (m : Int))))), (2, .d (.one (.v (.int .i64 (k : Int))))), (8, .d (.one (.v (.int .i64 ((i : Nat) : Int))))), (7, .own 7)], [(7, .row 26 2 i (ael k (cutf k f)))]⟩
  refine cSeq ?_
  refine cSeq ?_
  by_cases hin : i < n
  · skip
    refine cReg ?_
    refine mV hTT _ rfl ?_
    refine mV hTT _ rfl ?_
    refine mV hTT (.d (.one (.v (.int .i64 (n : Int))))) rfl ?_
    refine mV hTT (.d (.one (.v (.bool true)))) (evb (decide_eq_true (by omega))) ?_
    refine mV hTT _ rfl ?_
    refine mV hTT _ rfl ?_
    refine mV hTT _ rfl ?_
    refine mV hTT (.d (.one (.v (.bool (decide (((i : Nat) : Int) < (m : Int))))))) rfl ?_
    refine mV hTT _ rfl ?_
    refine mNil ?_
    refine tN ?_
    refine cCond rfl (fun hc1 => ?_) (fun hc1 => ?_)
    · skip
      refine cSkip ?_
      refine tN ?_
      refine cSeq ?_
      refine cBlock ?_
      have him : i < m := by have h0 := of_decide_eq_true hc1; omega
      refine cReg ?_
      refine mV hTT _ rfl ?_
      refine mV hTT _ rfl ?_
      refine mV hTT _ rfl ?_
      refine mV hTT (.d (.one (.at 2 ((ael K f) i)))) (ixR (el := (ael K f)) (z := ((i : Nat) : Int)) (n := n) rfl rfl rfl rfl rfl rfl (by omega) (by omega)) ?_
      refine mV hTT (.d (.agg ([.v (.bool ((f i).1)), lr K ((f i).2)]))) rfl ?_
      refine mV hTT _ rfl ?_
      refine mC0 (aKInt (K := K) (k := k) (s := (f i).1) (xs := (f i).2) (by omega) (by omega)) rfl rfl rfl ?_
      refine mB hTT (.d (.one (.row 2 1 (fun i' j' => (([.v (.bool ((f i).1)), lr k (((f i).2).take k)])[i' * 2 + j']?).getD (.v undef))))) rfl ?_
      refine mA hTT (id := 7) (n := i) (m := 1) (el := (ael k (cutf k f))) (el2 := (fun i' j' => (([.v (.bool ((f i).1)), lr k (((f i).2).take k)])[i' * 2 + j']?).getD (.v undef))) rfl rfl rfl (by show (i + 1) * 32 ≤ 140737488355328; omega) (by omega) rfl rfl rfl rfl rfl rfl rfl rfl rfl rfl ?_
      refine mV hTT _ rfl ?_
      refine mNil ?_
      refine bN ?_
      refine tN ?_
      refine cReg ?_
      refine mV hTT _ rfl ?_
      refine mV hTT (.d (.one (.v (.int .i64 (IntKind.i64.wrap (((i : Nat) : Int) + 1)))))) rfl ?_
      refine mV hTT _ rfl ?_
      refine mNil ?_
      exact ⟨(i + 1), by omega, by omega, wk (sl := [(0, .d (.one (.row 2 n (ael K f)))), (1, .d (.one (.v (.int .i64 (m : Int))))), (2, .d (.one (.v (.int .i64 (k : Int))))), (8, .d (.one (.v (.int .i64 (((i + 1) : Nat) : Int))))), (7, .own 7)]) (hp := [(7, .row 26 2 (i + 1) (ael k (cutf k f)))]) rfl ⟨hs rfl, hs rfl, hs rfl, hs' rfl (le_int (inc64 (by omega))), hs rfl, trivial⟩ ⟨ho' rfl (app_a rfl (Nat.le_refl _) (Nat.le_refl _)), trivial⟩ rfl⟩
    · skip
      refine cExit ?_
      refine tE ?_
      refine tE ?_
      refine bE ?_
      refine tN ?_
      refine cSeq ?_
      have hie : min n m = i := by have h0 := of_decide_eq_false hc1; omega
      subst hie
      refine AW.wk (wkRow 7 rfl) ?_
      refine cReg ?_
      refine mV hTT _ rfl ?_
      refine mV hTT _ rfl ?_
      refine mNil ?_
      refine tN ?_
      refine cRet ?_
      exact rQ rfl (AV.le.rfl)
  · skip
    refine cReg ?_
    refine mV hTT _ rfl ?_
    refine mV hTT _ rfl ?_
    refine mV hTT (.d (.one (.v (.int .i64 (n : Int))))) rfl ?_
    refine mV hTT (.d (.one (.v (.bool false)))) (evb (decide_eq_false (by omega))) ?_
    refine mV hTT _ rfl ?_
    refine mG rfl rfl ?_
    refine mG rfl rfl ?_
    refine mG rfl rfl ?_
    refine mV hTT _ rfl ?_
    refine mNil ?_
    refine tN ?_
    refine cF rfl ?_
    refine cExit ?_
    refine tE ?_
    refine tE ?_
    refine bE ?_
    refine tN ?_
    refine cSeq ?_
    have hie : min n m = i := by skip; omega
    subst hie
    refine AW.wk (wkRow 7 rfl) ?_
    refine cReg ?_
    refine mV hTT _ rfl ?_
    refine mV hTT _ rfl ?_
    refine mNil ?_
    refine tN ?_
    refine cRet ?_
    exact rQ rfl (AV.le.rfl)

set_option maxRecDepth 100000 in
set_option maxHeartbeats 4000000 in
theorem aQZero : ACall Tryz.prog 93 [] (.d (.agg (qn 64 0))) := by
  refine acallN hTT 2 [.cell 0 44] Tryz.func93 rfl rfl rfl rfl rfl ?_
  refine cSeq ?_
  refine cReg ?_
  refine mN hTT (.box 44 ([.v (.slice none 0 0), .v (.bool false), .v (.slice none 0 0), .v (.bool false)])) rfl rfl rfl ?_
  refine mNil ?_
  refine tN ?_
  refine cSeq ?_
  refine cReg ?_
  refine mC0 (aROfI (n := 0) (by decide) (by decide)) rfl rfl rfl ?_
  refine mS hTT 0 (.box 44 (qn 64 ((0 : Int) : Rat))) rfl ?_
  refine mNil ?_
  refine tN ?_
  refine cRet ?_
  exact rQ rfl (le_qn (Nat.le_refl _) rfl)

set_option maxRecDepth 100000 in
set_option maxHeartbeats 4000000 in
theorem aQFrom {a : Lf} {K M n : Nat} {c : Nat → Int} (ha : IsP a K n c) (hM : max (3 * K) 64 ≤ M := by decide) (hn : n ≤ 1000000 := by decide) (hMM : M ≤ 10000000 := by decide) : ACall Tryz.prog 27 [.one a] (.d (.one (qrow M (dg (rc c) (n)) (rc c)))) := by
  obtain ⟨⟨fa, ha, ea⟩, za⟩ := ha
  refine ACall.le (dl (DV.l ha) dl0) AV.le.rfl ?_
  refine acallN hTT 23 [.tmp 2] Tryz.func27 rfl rfl rfl rfl rfl ?_
  refine cSeq ?_
  refine cReg ?_
  refine mV hTT _ rfl ?_
  refine mNil ?_
  refine tN ?_
  refine cSeq ?_
  refine cReg ?_
  refine mV hTT _ rfl ?_
  refine mNil ?_
  refine tN ?_
  refine cSeq ?_
  refine cSeq ?_
  refine AW.wk (wkNil 3 3 44 4 (fun _ _ => .v undef) rfl rfl) ?_
  refine cReg ?_
  refine mV hTT _ rfl ?_
  refine mV hTT (.d (.one (.v (.int .i64 (n : Int))))) rfl ?_
  refine mV hTT _ rfl ?_
  refine mNil ?_
  refine tN ?_
  refine cBlock ?_
  refine cLoop (ι := Nat) (fun (i : Nat) => ⟨23, [(0, .d (.one (.row 2 n (ael K fa)))), (5, .d (.one (.row 2 n (ael K fa)))), (6, .d (.one (.v (.int .i64 (n : Int))))), (7, .d (.one (.v (.int .i64 ((i : Nat) : Int))))), (3, .own 3)], [(3, .row 44 4 i (qel M (rc c)))]⟩) (fun (i : Nat) => i ≤ n) (fun (i : Nat) => n - i) 0 (Nat.zero_le _) (wk (sl := [(0, .d (.one (.row 2 n (ael K fa)))), (5, .d (.one (.row 2 n (ael K fa)))), (6, .d (.one (.v (.int .i64 (n : Int))))), (7, .d (.one (.v (.int .i64 ((0 : Nat) : Int))))), (3, .own 3)]) (hp := [(3, .row 44 4 0 (qel M (rc c)))]) rfl ⟨hs rfl, hs rfl, hs rfl, hs rfl, hs rfl, trivial⟩ ⟨ho' rfl (leo_row0), trivial⟩ rfl) ?_
  rintro i hI
  have hi : i ≤ n := hI
  show AW Tryz.prog _ _ ⟨23, [(0, .d (.one (.row 2 n (ael K fa)))), (5, .d (.one (.row 2 n (ael K fa)))), (6, .d (.one (.v (.int .i64 (n : Int))))), (7, .d (.one (.v (.int .i64 ((i : Nat) : Int))))), (3, .own 3)], [(3, .row 44 4 i (qel M (rc c)))]⟩
  refine cSeq ?_
  refine cReg ?_
  refine mV hTT (.d (.one (.v (.bool (decide (((i : Nat) : Int) < (n : Int))))))) rfl ?_
  refine mNil ?_
  refine tN ?_
  refine cSeq ?_
  refine cCond rfl (fun hc1 => ?_) (fun hc1 => ?_)
  · skip
    refine cSkip ?_
    refine tN ?_
    refine cSeq ?_
    refine cBlock ?_
    refine cSeq ?_
    refine cReg ?_
    refine mV hTT _ rfl ?_
    refine mV hTT _ rfl ?_
    refine mNil ?_
    refine tN ?_
    have hin : i < n := by have h0 := of_decide_eq_true hc1; omega
    refine cReg ?_
    refine mV hTT _ rfl ?_
    refine mV hTT _ rfl ?_
    refine mV hTT _ rfl ?_
    refine mV hTT (.d (.one (.at 2 ((ael K fa) i)))) (ixR (el := (ael K fa)) (z := ((i : Nat) : Int)) (n := n) rfl rfl rfl rfl rfl rfl (by omega) (by omega)) ?_
    refine mV hTT (.d (.agg ([.v (.bool ((fa i).1)), lr K ((fa i).2)]))) rfl ?_
    refine mC0 (aRFrom ⟨_, _, fun _ _ _ h => h, ea i (by omega)⟩ (M := (3 * K)) (by omega) (by omega)) rfl rfl rfl ?_
    refine mC0 (aROf (n := 1) (by decide) (by decide)) rfl rfl rfl ?_
    refine mC0 (aRMake (isr (3 * K) (c i)) (isr 64 1) (M := (max (3 * K) (max 64 64))) (by omega) (by omega)) rfl rfl rfl ?_
    refine mB hTT (.d (.one (.row 4 1 (fun i' j' => ((qn (max (3 * K) (max 64 64)) (mkR (c i) 1))[i' * 4 + j']?).getD (.v undef))))) rfl ?_
    refine mA hTT (id := 3) (n := i) (m := 1) (el := (qel M (rc c))) (el2 := (fun i' j' => ((qn (max (3 * K) (max 64 64)) (mkR (c i) 1))[i' * 4 + j']?).getD (.v undef))) rfl rfl rfl (by show (i + 1) * 64 ≤ 140737488355328; omega) (by omega) rfl rfl rfl rfl rfl rfl rfl rfl rfl rfl ?_
    refine mV hTT _ rfl ?_
    refine mNil ?_
    refine bN ?_
    refine tN ?_
    refine cReg ?_
    refine mV hTT (.d (.one (.v (.int .i64 (IntKind.i64.wrap (((i : Nat) : Int) + 1)))))) rfl ?_
    refine mV hTT _ rfl ?_
    refine mNil ?_
    exact ⟨(i + 1), by omega, by omega, wk (sl := [(0, .d (.one (.row 2 n (ael K fa)))), (5, .d (.one (.row 2 n (ael K fa)))), (6, .d (.one (.v (.int .i64 (n : Int))))), (7, .d (.one (.v (.int .i64 (((i + 1) : Nat) : Int))))), (3, .own 3)]) (hp := [(3, .row 44 4 (i + 1) (qel M (rc c)))]) rfl ⟨hs rfl, hs rfl, hs rfl, hs' rfl (le_int (inc64 (by omega))), hs rfl, trivial⟩ ⟨ho' rfl (app_q rfl (Nat.le_refl _) (by omega) (mkR_int _) (fun _ _ => rfl)), trivial⟩ rfl⟩
  · skip
    refine cExit ?_
    refine tE ?_
    refine tE ?_
    refine bE ?_
    refine tN ?_
    refine cSeq ?_
    have hie : n = i := by have h0 := of_decide_eq_false hc1; omega
    subst hie
    refine AW.wk (wkRow 3 rfl) ?_
    refine cReg ?_
    refine mV hTT _ rfl ?_
    refine mC0 (aQCut (K := M) (n := n) (c := (rc c)) (by omega)) rfl rfl rfl ?_
    refine mV hTT _ rfl ?_
    refine mNil ?_
    refine tN ?_
    refine cRet ?_
    exact rQ rfl (AV.le.rfl)

set_option maxRecDepth 100000 in
set_option maxHeartbeats 4000000 in
theorem aQOf {a : Lf} {n : Nat} {c : Nat → Int} (ha : IsI a n c) (hb : ∀ i, i < n → -9223372036854775808 ≤ c i ∧ c i ≤ 9223372036854775807) (hn : n ≤ 1000000 := by decide) : ACall Tryz.prog 39 [.one a] (.d (.one (qrow 64 (dg (rc c) (n)) (rc c)))) := by
  obtain ⟨ha, za⟩ := ha
  refine ACall.le (dl (DV.l ha) dl0) AV.le.rfl ?_
  refine acallN hTT 21 [.tmp 2] Tryz.func39 rfl rfl rfl rfl rfl ?_
  refine cSeq ?_
  refine cReg ?_
  refine mV hTT _ rfl ?_
  refine mNil ?_
  refine tN ?_
  refine cSeq ?_
  refine cReg ?_
  refine mV hTT _ rfl ?_
  refine mNil ?_
  refine tN ?_
  refine cSeq ?_
  refine cSeq ?_
  refine AW.wk (wkNil 3 3 44 4 (fun _ _ => .v undef) rfl rfl) ?_
  refine cReg ?_
  refine mV hTT _ rfl ?_
  refine mV hTT (.d (.one (.v (.int .i64 (n : Int))))) rfl ?_
  refine mV hTT _ rfl ?_
  refine mNil ?_
  refine tN ?_
  refine cBlock ?_
  refine cLoop (ι := Nat) (fun (i : Nat) => ⟨21, [(0, .d (.one (.row 1 n (fun i _ => .v (.int .i64 (c i)))))), (5, .d (.one (.row 1 n (fun i _ => .v (.int .i64 (c i)))))), (6, .d (.one (.v (.int .i64 (n : Int))))), (7, .d (.one (.v (.int .i64 ((i : Nat) : Int))))), (3, .own 3)], [(3, .row 44 4 i (qel 64 (rc c)))]⟩) (fun (i : Nat) => i ≤ n) (fun (i : Nat) => n - i) 0 (Nat.zero_le _) (wk (sl := [(0, .d (.one (.row 1 n (fun i _ => .v (.int .i64 (c i)))))), (5, .d (.one (.row 1 n (fun i _ => .v (.int .i64 (c i)))))), (6, .d (.one (.v (.int .i64 (n : Int))))), (7, .d (.one (.v (.int .i64 ((0 : Nat) : Int))))), (3, .own 3)]) (hp := [(3, .row 44 4 0 (qel 64 (rc c)))]) rfl ⟨hs rfl, hs rfl, hs rfl, hs rfl, hs rfl, trivial⟩ ⟨ho' rfl (leo_row0), trivial⟩ rfl) ?_
  rintro i hI
  have hi : i ≤ n := hI
  show AW Tryz.prog _ _ ⟨21, [(0, .d (.one (.row 1 n (fun i _ => .v (.int .i64 (c i)))))), (5, .d (.one (.row 1 n (fun i _ => .v (.int .i64 (c i)))))), (6, .d (.one (.v (.int .i64 (n : Int))))), (7, .d (.one (.v (.int .i64 ((i : Nat) : Int))))), (3, .own 3)], [(3, .row 44 4 i (qel 64 (rc c)))]⟩
  refine cSeq ?_
  refine cReg ?_
  refine mV hTT (.d (.one (.v (.bool (decide (((i : Nat) : Int) < (n : Int))))))) rfl ?_
  refine mNil ?_
  refine tN ?_
  refine cSeq ?_
  refine cCond rfl (fun hc1 => ?_) (fun hc1 => ?_)
  · skip
    refine cSkip ?_
    refine tN ?_
    refine cSeq ?_
    refine cBlock ?_
    refine cSeq ?_
    refine cReg ?_
    refine mV hTT _ rfl ?_
    refine mV hTT _ rfl ?_
    refine mNil ?_
    refine tN ?_
    have hin : i < n := by have h0 := of_decide_eq_true hc1; omega
    refine cReg ?_
    refine mV hTT _ rfl ?_
    refine mV hTT _ rfl ?_
    refine mV hTT _ rfl ?_
    refine mV hTT (.d (.one (.at 1 ((fun i _ => .v (.int .i64 (c i))) i)))) (ixR (el := (fun i _ => .v (.int .i64 (c i)))) (z := ((i : Nat) : Int)) (n := n) rfl rfl rfl rfl rfl rfl (by omega) (by omega)) ?_
    refine mV hTT (.d (.one (.v (.int .i64 (c i))))) rfl ?_
    refine mC0 (aROfI (n := c i) (hb i hin).1 (hb i hin).2) rfl rfl rfl ?_
    refine mB hTT (.d (.one (.row 4 1 (fun i' j' => ((qn 64 ((c i : Int) : Rat))[i' * 4 + j']?).getD (.v undef))))) rfl ?_
    refine mA hTT (id := 3) (n := i) (m := 1) (el := (qel 64 (rc c))) (el2 := (fun i' j' => ((qn 64 ((c i : Int) : Rat))[i' * 4 + j']?).getD (.v undef))) rfl rfl rfl (by show (i + 1) * 64 ≤ 140737488355328; omega) (by omega) rfl rfl rfl rfl rfl rfl rfl rfl rfl rfl ?_
    refine mV hTT _ rfl ?_
    refine mNil ?_
    refine bN ?_
    refine tN ?_
    refine cReg ?_
    refine mV hTT (.d (.one (.v (.int .i64 (IntKind.i64.wrap (((i : Nat) : Int) + 1)))))) rfl ?_
    refine mV hTT _ rfl ?_
    refine mNil ?_
    exact ⟨(i + 1), by omega, by omega, wk (sl := [(0, .d (.one (.row 1 n (fun i _ => .v (.int .i64 (c i)))))), (5, .d (.one (.row 1 n (fun i _ => .v (.int .i64 (c i)))))), (6, .d (.one (.v (.int .i64 (n : Int))))), (7, .d (.one (.v (.int .i64 (((i + 1) : Nat) : Int))))), (3, .own 3)]) (hp := [(3, .row 44 4 (i + 1) (qel 64 (rc c)))]) rfl ⟨hs rfl, hs rfl, hs rfl, hs' rfl (le_int (inc64 (by omega))), hs rfl, trivial⟩ ⟨ho' rfl (app_q rfl (Nat.le_refl _) (Nat.le_refl _) rfl (fun _ _ => rfl)), trivial⟩ rfl⟩
  · skip
    refine cExit ?_
    refine tE ?_
    refine tE ?_
    refine bE ?_
    refine tN ?_
    refine cSeq ?_
    have hie : n = i := by have h0 := of_decide_eq_false hc1; omega
    subst hie
    refine AW.wk (wkRow 3 rfl) ?_
    refine cReg ?_
    refine mV hTT _ rfl ?_
    refine mC0 (aQCut (K := 64) (n := n) (c := (rc c)) (by omega)) rfl rfl rfl ?_
    refine mV hTT _ rfl ?_
    refine mNil ?_
    refine tN ?_
    refine cRet ?_
    exact rQ rfl (AV.le.rfl)

set_option maxRecDepth 100000 in
set_option maxHeartbeats 4000000 in
theorem aQAt {a : Lf} {K M n k : Nat} {c : Nat → Rat} (ha : IsQP a K n c) (hM : max K 64 ≤ M := by decide) : ACall Tryz.prog 92 [.one a, .one (.v (.int .i64 (k : Int)))] (.d (.agg (qn M (c k)))) := by
  obtain ⟨ha, za⟩ := ha
  refine ACall.le (dl (DV.l ha) (dl DV.same dl0)) AV.le.rfl ?_
  refine acallN hTT 18 [.cell 4 44] Tryz.func92 rfl rfl rfl rfl rfl ?_
  refine cSeq ?_
  refine cReg ?_
  refine mN hTT (.box 44 ([.v (.slice none 0 0), .v (.bool false), .v (.slice none 0 0), .v (.bool false)])) rfl rfl rfl ?_
  refine mNil ?_
  refine tN ?_
  refine cSeq ?_
  refine cSeq ?_
  refine cReg ?_
  refine mV hTT _ rfl ?_
  refine mV hTT (.d (.one (.v (.bool false)))) (evb (decide_eq_false (by omega))) ?_
  refine mV hTT _ rfl ?_
  refine mV hTT _ rfl ?_
  refine mV hTT _ rfl ?_
  refine mV hTT (.d (.one (.v (.int .i64 (n : Int))))) rfl ?_
  refine mV hTT (.d (.one (.v (.bool (decide ((k : Int) ≥ (n : Int))))))) rfl ?_
  refine mV hTT _ rfl ?_
  refine mNil ?_
  refine tN ?_
  refine cCond rfl (fun hc1 => ?_) (fun hc1 => ?_)
  · skip
    refine cSeq ?_
    refine cReg ?_
    refine mC0 (aQZero) rfl rfl rfl ?_
    refine mS hTT 4 (.box 44 (qn 64 0)) rfl ?_
    refine mNil ?_
    refine tN ?_
    refine cRet ?_
    refine tR ?_
    exact rQ rfl (le_qn (by omega) (za k (by have h0 := of_decide_eq_true hc1; omega)).symm)
  · skip
    refine cSkip ?_
    refine tN ?_
    refine cSeq ?_
    have hkn : k < n := by have h0 := of_decide_eq_false hc1; omega
    refine cReg ?_
    refine mV hTT _ rfl ?_
    refine mV hTT _ rfl ?_
    refine mV hTT (.d (.one (.at 4 ((qel K c) k)))) (ixR (el := (qel K c)) (z := (k : Int)) (n := n) rfl rfl rfl rfl rfl rfl (by omega) (by omega)) ?_
    refine mV hTT (.d (.agg (qn K (c k)))) rfl ?_
    refine mS hTT 4 (.box 44 (qn K (c k))) rfl ?_
    refine mNil ?_
    refine tN ?_
    refine cRet ?_
    exact rQ rfl (le_qn (by omega) rfl)

set_option maxRecDepth 100000 in
set_option maxHeartbeats 4000000 in
theorem aQAdd {a b : Lf} {K L M n m : Nat} {c d : Nat → Rat} (ha : IsQP a K n c) (hb : IsQP b L m d) (hM : max (max K 64 + max L 64 + 1) 64 ≤ M := by decide) (hn : max n m ≤ 1000000 := by decide) (hMM : M ≤ 10000000 := by decide) : ACall Tryz.prog 57 [.one a, .one b] (.d (.one (qrow M (dg (faddQ c d) (max n m)) (faddQ c d)))) := by
  obtain ⟨ha, za⟩ := ha
  obtain ⟨hb, zb⟩ := hb
  refine ACall.le (dl (DV.l ha) (dl (DV.l hb) dl0)) AV.le.rfl ?_
  refine acallN hTT 28 [.tmp 4] Tryz.func57 rfl rfl rfl rfl rfl ?_
  refine cSeq ?_
  refine cReg ?_
  refine mV hTT _ rfl ?_
  refine mNil ?_
  refine tN ?_
  refine cSeq ?_
  refine cReg ?_
  refine mV hTT _ rfl ?_
  refine mNil ?_
  refine tN ?_
  refine cSeq ?_
  refine cSeq ?_
  refine AW.wk (wkNil 5 5 44 4 (fun _ _ => .v undef) rfl rfl) ?_
  refine cReg ?_
  refine mV hTT _ rfl ?_
  refine mNil ?_
  refine tN ?_
  refine cBlock ?_
  refine cLoop (ι := Nat) (fun (i : Nat) => ⟨28, [(0, .d (.one (.row 4 n (qel K c)))), (1, .d (.one (.row 4 m (qel L d)))), (6, .d (.one (.v (.int .i64 ((i : Nat) : Int))))), (5, .own 5)], [(5, .row 44 4 i (qel M (faddQ c d)))]⟩) (fun (i : Nat) => i ≤ (max n m)) (fun (i : Nat) => (max n m) - i) 0 (Nat.zero_le _) (wk (sl := [(0, .d (.one (.row 4 n (qel K c)))), (1, .d (.one (.row 4 m (qel L d)))), (6, .d (.one (.v (.int .i64 ((0 : Nat) : Int))))), (5, .own 5)]) (hp := [(5, .row 44 4 0 (qel M (faddQ c d)))]) rfl ⟨hs rfl, hs rfl, hs rfl, hs rfl, trivial⟩ ⟨ho' rfl (leo_row0), trivial⟩ rfl) ?_
  rintro i hI
  have hi : i ≤ (max n m) := hI
  show AW Tryz.prog _ _ ⟨28, [(0, .d (.one (.row 4 n (qel K c)))), (1, .d (.one (.row 4 m (qel L d)))), (6, .d (.one (.v (.int .i64 ((i : Nat) : Int))))), (5, .own 5)], [(5, .row 44 4 i (qel M (faddQ c d)))]⟩
  refine cSeq ?_
  refine cSeq ?_
  refine cReg ?_
  refine mV hTT _ rfl ?_
  refine mV hTT _ rfl ?_
  refine mV hTT (.d (.one (.v (.int .i64 (n : Int))))) rfl ?_
  refine mV hTT _ rfl ?_
  refine mV hTT (.d (.one (.v (.int .i64 (m : Int))))) rfl ?_
  refine mV hTT (.d (.one (.v (.int .i64 ((max n m : Nat) : Int))))) (evi (maxNN n m)) ?_
  refine mV hTT (.d (.one (.v (.bool (decide (((i : Nat) : Int) < ((max n m : Nat) : Int))))))) rfl ?_
  refine mNil ?_
  refine tN ?_
  refine cCond rfl (fun hc1 => ?_) (fun hc1 => ?_)
  · skip
    refine cSkip ?_
    refine tN ?_
    refine cSeq ?_
    refine cBlock ?_
    have hin : i < (max n m) := by have h0 := of_decide_eq_true hc1; omega
    refine cReg ?_
    refine mV hTT _ rfl ?_
    refine mV hTT _ rfl ?_
    refine mV hTT _ rfl ?_
    refine mC0 (aQAt (isqp (K := K) (c := c) za) (k := i) (M := (max K 64)) (by omega)) rfl rfl rfl ?_
    refine mV hTT _ rfl ?_
    refine mV hTT _ rfl ?_
    refine mC0 (aQAt (isqp (K := L) (c := d) zb) (k := i) (M := (max L 64)) (by omega)) rfl rfl rfl ?_
    refine mC0 (aRAddR (isq (max K 64) (c i)) (isq (max L 64) (d i)) (M := (max ((max K 64) + (max L 64) + 1) 64)) (by omega) (by omega)) rfl rfl rfl ?_
    refine mB hTT (.d (.one (.row 4 1 (fun i' j' => ((qn (max ((max K 64) + (max L 64) + 1) 64) ((c i) + (d i)))[i' * 4 + j']?).getD (.v undef))))) rfl ?_
    refine mA hTT (id := 5) (n := i) (m := 1) (el := (qel M (faddQ c d))) (el2 := (fun i' j' => ((qn (max ((max K 64) + (max L 64) + 1) 64) ((c i) + (d i)))[i' * 4 + j']?).getD (.v undef))) rfl rfl rfl (by show (i + 1) * 64 ≤ 140737488355328; omega) (by omega) rfl rfl rfl rfl rfl rfl rfl rfl rfl rfl ?_
    refine mV hTT _ rfl ?_
    refine mNil ?_
    refine bN ?_
    refine tN ?_
    refine cReg ?_
    refine mV hTT _ rfl ?_
    refine mV hTT (.d (.one (.v (.int .i64 (IntKind.i64.wrap (((i : Nat) : Int) + 1)))))) rfl ?_
    refine mV hTT _ rfl ?_
    refine mNil ?_
    exact ⟨(i + 1), by omega, by omega, wk (sl := [(0, .d (.one (.row 4 n (qel K c)))), (1, .d (.one (.row 4 m (qel L d)))), (6, .d (.one (.v (.int .i64 (((i + 1) : Nat) : Int))))), (5, .own 5)]) (hp := [(5, .row 44 4 (i + 1) (qel M (faddQ c d)))]) rfl ⟨hs rfl, hs rfl, hs' rfl (le_int (inc64 (by omega))), hs rfl, trivial⟩ ⟨ho' rfl (app_q rfl (Nat.le_refl _) (by omega) rfl (fun _ _ => rfl)), trivial⟩ rfl⟩
  · skip
    refine cExit ?_
    refine tE ?_
    refine tE ?_
    refine bE ?_
    refine tN ?_
    refine cSeq ?_
    have hie : (max n m) = i := by have h0 := of_decide_eq_false hc1; omega
    subst hie
    refine AW.wk (wkRow 5 rfl) ?_
    refine cReg ?_
    refine mV hTT _ rfl ?_
    refine mC0 (aQCut (K := M) (n := (max n m)) (c := (faddQ c d)) (by omega)) rfl rfl rfl ?_
    refine mV hTT _ rfl ?_
    refine mNil ?_
    refine tN ?_
    refine cRet ?_
    exact rQ rfl (AV.le.rfl)

set_option maxRecDepth 100000 in
set_option maxHeartbeats 4000000 in
theorem aQScale {a : Lf} {b : List Lf} {K L M n : Nat} {c : Nat → Rat} {q : Rat} (ha : IsQP a K n c) (hq : IsQ b L q) (hM : max (K + L + 1) 64 ≤ M := by decide) (hn : n ≤ 1000000 := by decide) (hMM : M ≤ 10000000 := by decide) : ACall Tryz.prog 91 [.one a, .agg b] (.d (.one (qrow M (dg (fsclQ c q) (n)) (fsclQ c q)))) := by
  obtain ⟨ha, za⟩ := ha
  refine ACall.le (dl (DV.l ha) (dl (DV.g hq) dl0)) AV.le.rfl ?_
  refine acallN hTT 24 [.tmp 4] Tryz.func91 rfl rfl rfl rfl rfl ?_
  refine cSeq ?_
  refine cReg ?_
  refine mN hTT (.box 44 (qn L q)) rfl rfl rfl ?_
  refine mV hTT _ rfl ?_
  refine mNil ?_
  refine tN ?_
  refine cSeq ?_
  refine cReg ?_
  refine mV hTT _ rfl ?_
  refine mNil ?_
  refine tN ?_
  refine cSeq ?_
  refine cSeq ?_
  refine AW.wk (wkNil 5 5 44 4 (fun _ _ => .v undef) rfl rfl) ?_
  refine cReg ?_
  refine mV hTT _ rfl ?_
  refine mV hTT (.d (.one (.v (.int .i64 (n : Int))))) rfl ?_
  refine mV hTT _ rfl ?_
  refine mNil ?_
  refine tN ?_
  refine cBlock ?_
  refine cLoop (ι := Nat) (fun (i : Nat) => ⟨24, [(0, .d (.one (.row 4 n (qel K c)))), (7, .d (.one (.row 4 n (qel K c)))), (8, .d (.one (.v (.int .i64 (n : Int))))), (3, .ptr 3 0), (9, .d (.one (.v (.int .i64 ((i : Nat) : Int))))), (5, .own 5)], [(3, .box 44 (qn L q)), (5, .row 44 4 i (qel M (fsclQ c q)))]⟩) (fun (i : Nat) => i ≤ n) (fun (i : Nat) => n - i) 0 (Nat.zero_le _) (wk (sl := [(0, .d (.one (.row 4 n (qel K c)))), (7, .d (.one (.row 4 n (qel K c)))), (8, .d (.one (.v (.int .i64 (n : Int))))), (3, .ptr 3 0), (9, .d (.one (.v (.int .i64 ((0 : Nat) : Int))))), (5, .own 5)]) (hp := [(3, .box 44 (qn L q)), (5, .row 44 4 0 (qel M (fsclQ c q)))]) rfl ⟨hs rfl, hs rfl, hs rfl, hs rfl, hs rfl, hs rfl, trivial⟩ ⟨ho rfl, ho' rfl (leo_row0), trivial⟩ rfl) ?_
  rintro i hI
  have hi : i ≤ n := hI
  show AW Tryz.prog _ _ ⟨24, [(0, .d (.one (.row 4 n (qel K c)))), (7, .d (.one (.row 4 n (qel K c)))), (8, .d (.one (.v (.int .i64 (n : Int))))), (3, .ptr 3 0), (9, .d (.one (.v (.int .i64 ((i : Nat) : Int))))), (5, .own 5)], [(3, .box 44 (qn L q)), (5, .row 44 4 i (qel M (fsclQ c q)))]⟩
  refine cSeq ?_
  refine cReg ?_
  refine mV hTT (.d (.one (.v (.bool (decide (((i : Nat) : Int) < (n : Int))))))) rfl ?_
  refine mNil ?_
  refine tN ?_
  refine cSeq ?_
  refine cCond rfl (fun hc1 => ?_) (fun hc1 => ?_)
  · skip
    refine cSkip ?_
    refine tN ?_
    refine cSeq ?_
    refine cBlock ?_
    refine cSeq ?_
    refine cReg ?_
    refine mV hTT _ rfl ?_
    refine mV hTT _ rfl ?_
    refine mNil ?_
    refine tN ?_
    have hin : i < n := by have h0 := of_decide_eq_true hc1; omega
    refine cDrawK hTT 8 (by kernel_rfl) (by kernel_rfl) (by kernel_rfl) ?_
    refine .cons (OpS.V _ rfl) ?_
    refine .cons (OpS.V _ rfl) ?_
    refine .cons (OpS.V _ rfl) ?_
    refine .cons (OpS.V (.d (.one (.at 4 ((qel K c) i)))) (ixR (el := (qel K c)) (z := ((i : Nat) : Int)) (n := n) rfl rfl rfl rfl rfl rfl (by omega) (by omega))) ?_
    refine .cons (OpS.V (.d (.agg (qn K (c i)))) rfl) ?_
    refine .cons (OpS.V (.d (.agg (qn L q))) rfl) ?_
    refine .cons (OpS.C0 (aRMulR (isq K (c i)) (isq L q) (M := (max (K + L + 1) 64)) (by omega) (by omega)) rfl rfl rfl) ?_
    refine .cons (OpS.B _ rfl) ?_
    refine .nil ?_
    refine mA hTT (id := 5) (n := i) (m := 1) (el := (qel M (fsclQ c q))) (el2 := (fun i' j' => ((qn (max (K + L + 1) 64) ((c i) * q))[i' * 4 + j']?).getD (.v undef))) rfl rfl rfl (by show (i + 1) * 64 ≤ 140737488355328; omega) (by omega) rfl rfl rfl rfl rfl rfl rfl rfl rfl rfl ?_
    refine mV hTT _ rfl ?_
    refine mNil ?_
    refine bN ?_
    refine tN ?_
    refine cReg ?_
    refine mV hTT (.d (.one (.v (.int .i64 (IntKind.i64.wrap (((i : Nat) : Int) + 1)))))) rfl ?_
    refine mV hTT _ rfl ?_
    refine mNil ?_
    exact ⟨(i + 1), by omega, by omega, wk (sl := [(0, .d (.one (.row 4 n (qel K c)))), (7, .d (.one (.row 4 n (qel K c)))), (8, .d (.one (.v (.int .i64 (n : Int))))), (3, .ptr 3 0), (9, .d (.one (.v (.int .i64 (((i + 1) : Nat) : Int))))), (5, .own 5)]) (hp := [(3, .box 44 (qn L q)), (5, .row 44 4 (i + 1) (qel M (fsclQ c q)))]) rfl ⟨hs rfl, hs rfl, hs rfl, hs rfl, hs' rfl (le_int (inc64 (by omega))), hs rfl, trivial⟩ ⟨ho rfl, ho' rfl (app_q rfl (Nat.le_refl _) (by omega) rfl (fun _ _ => rfl)), trivial⟩ rfl⟩
  · skip
    refine cExit ?_
    refine tE ?_
    refine tE ?_
    refine bE ?_
    refine tN ?_
    refine cSeq ?_
    have hie : n = i := by have h0 := of_decide_eq_false hc1; omega
    subst hie
    refine AW.wk (wkRow 5 rfl) ?_
    refine cReg ?_
    refine mV hTT _ rfl ?_
    refine mC0 (aQCut (K := M) (n := n) (c := (fsclQ c q)) (by omega)) rfl rfl rfl ?_
    refine mV hTT _ rfl ?_
    refine mNil ?_
    refine tN ?_
    refine cRet ?_
    exact rQ rfl (AV.le.rfl)

set_option maxRecDepth 100000 in
set_option maxHeartbeats 4000000 in
theorem aQSame {a b : Lf} {K L n : Nat} {c : Nat → Int} (ha : ∀ B w v, LfR B w a v → LfR B w (qrow K n (rc c)) v) (hb : ∀ B w v, LfR B w b v → LfR B w (prow L n c) v) (hn : n ≤ 1000000 := by decide) (hK : K ≤ 10000000 := by decide) (hL : L ≤ 1000000000 := by decide) : ACall Tryz.prog 38 [.one a, .one b] (.d (.one (.v (.bool true)))) := by
  refine ACall.le (dl (DV.l ha) (dl (DV.l hb) dl0)) AV.le.rfl ?_
  refine acallN hTT 38 [.tmp 4] Tryz.func38 rfl rfl rfl rfl rfl ?_
  refine cSeq ?_
  refine cReg ?_
  refine mV hTT _ rfl ?_
  refine mNil ?_
  refine tN ?_
  refine cSeq ?_
  refine cSeq ?_
  refine cReg ?_
  refine mV hTT _ rfl ?_
  refine mV hTT (.d (.one (.v (.int .i64 (n : Int))))) rfl ?_
  refine mV hTT _ rfl ?_
  refine mV hTT (.d (.one (.v (.int .i64 (n : Int))))) rfl ?_
  refine mV hTT (.d (.one (.v (.bool false)))) (evb (bne_self_eq_false _)) ?_
  refine mNil ?_
  refine tN ?_
  refine cF rfl ?_
  refine cSkip ?_
  refine tN ?_
  refine cSeq ?_
  refine cSeq ?_
  refine cReg ?_
  refine mV hTT _ rfl ?_
  refine mV hTT (.d (.one (.v (.int .i64 (n : Int))))) rfl ?_
  refine mV hTT _ rfl ?_
  refine mNil ?_
  refine tN ?_
  refine cBlock ?_
  refine cLoop (ι := Nat) (fun (i : Nat) => ⟨38, [(0, .d (.one (.row 4 n (qel K (rc c))))), (1, .d (.one (.row 2 n (zel L c)))), (12, .d (.one (.v (.int .i64 (n : Int))))), (13, .d (.one (.v (.int .i64 ((i : Nat) : Int)))))], []⟩) (fun (i : Nat) => i ≤ n) (fun (i : Nat) => n - i) 0 (Nat.zero_le _) (wk (sl := [(0, .d (.one (.row 4 n (qel K (rc c))))), (1, .d (.one (.row 2 n (zel L c)))), (12, .d (.one (.v (.int .i64 (n : Int))))), (13, .d (.one (.v (.int .i64 ((0 : Nat) : Int)))))]) (hp := []) rfl ⟨hs rfl, hs rfl, hs rfl, hs rfl, trivial⟩ trivial rfl) ?_
  rintro i hI
  have hi : i ≤ n := hI
  show AW Tryz.prog _ _ ⟨38, [(0, .d (.one (.row 4 n (qel K (rc c))))), (1, .d (.one (.row 2 n (zel L c)))), (12, .d (.one (.v (.int .i64 (n : Int))))), (13, .d (.one (.v (.int .i64 ((i : Nat) : Int)))))], []⟩
  refine cSeq ?_
  refine cReg ?_
  refine mV hTT (.d (.one (.v (.bool (decide (((i : Nat) : Int) < (n : Int))))))) rfl ?_
  refine mNil ?_
  refine tN ?_
  refine cSeq ?_
  refine cCond rfl (fun hc1 => ?_) (fun hc1 => ?_)
  · skip
    refine cSkip ?_
    refine tN ?_
    refine cSeq ?_
    refine cBlock ?_
    refine cSeq ?_
    refine cReg ?_
    refine mV hTT _ rfl ?_
    refine mV hTT _ rfl ?_
    refine mNil ?_
    refine tN ?_
    refine cSeq ?_
    have hin : i < n := by have h0 := of_decide_eq_true hc1; omega
    refine cDrawK hTT 21 (by kernel_rfl) (by kernel_rfl) (by kernel_rfl) ?_
    refine .cons (OpS.V _ rfl) ?_
    refine .cons (OpS.V _ rfl) ?_
    refine .cons (OpS.V (.d (.one (.at 4 ((qel K (rc c)) i)))) (ixR (el := (qel K (rc c))) (z := ((i : Nat) : Int)) (n := n) rfl rfl rfl rfl rfl rfl (by omega) (by omega))) ?_
    refine .cons (OpS.V _ rfl) ?_
    refine .cons (OpS.V (.d (.agg (rn K (Rat.num ((rc c) i))))) rfl) ?_
    refine .cons (OpS.V _ rfl) ?_
    refine .cons (OpS.V _ rfl) ?_
    refine .cons (OpS.V (.d (.one (.at 2 ((zel L c) i)))) (ixR (el := (zel L c)) (z := ((i : Nat) : Int)) (n := n) rfl rfl rfl rfl rfl rfl (by omega) (by omega))) ?_
    refine .cons (OpS.V (.d (.agg (zn L (c i)))) rfl) ?_
    refine .cons (OpS.C0 (aRSame (IsR.eq (isr K (Rat.num ((rc c) i))) (Rat.num_intCast _)) (isn L (c i)) (by omega) (by omega)) rfl rfl rfl) ?_
    refine .cons (OpS.V (.d (.one (.v (.bool false)))) rfl) ?_
    refine .cons (OpS.V _ rfl) ?_
    refine .cons (OpS.V _ rfl) ?_
    refine .cons (OpS.V _ rfl) ?_
    refine .cons (OpS.V (.d (.one (.at 4 ((qel K (rc c)) i)))) (ixR (el := (qel K (rc c))) (z := ((i : Nat) : Int)) (n := n) rfl rfl rfl rfl rfl rfl (by omega) (by omega))) ?_
    refine .cons (OpS.V _ rfl) ?_
    refine .cons (OpS.V (.d (.agg (rn K (Rat.den ((rc c) i) : Int)))) rfl) ?_
    refine .cons (OpS.C0 (aROf (n := 1) (by decide) (by decide)) rfl rfl rfl) ?_
    refine .cons (OpS.C0 (aRCmp (isr K (Rat.den ((rc c) i) : Int)) (isr 64 1) (by omega) (by decide)) rfl rfl rfl) ?_
    refine .cons (OpS.V (.d (.one (.v (.bool false)))) (evb (by show (cmpZ ((rc c i).den : Int) 1 != 0) = false; unfold rc; rw [Rat.den_intCast]; rfl))) ?_
    refine .cons (OpS.V _ rfl) ?_
    refine .nil ?_
    refine mNil ?_
    refine tN ?_
    refine cF rfl ?_
    refine cSkip ?_
    refine bN ?_
    refine tN ?_
    refine cReg ?_
    refine mV hTT (.d (.one (.v (.int .i64 (IntKind.i64.wrap (((i : Nat) : Int) + 1)))))) rfl ?_
    refine mV hTT _ rfl ?_
    refine mNil ?_
    exact ⟨(i + 1), by omega, by omega, wk (sl := [(0, .d (.one (.row 4 n (qel K (rc c))))), (1, .d (.one (.row 2 n (zel L c)))), (12, .d (.one (.v (.int .i64 (n : Int))))), (13, .d (.one (.v (.int .i64 (((i + 1) : Nat) : Int)))))]) (hp := []) rfl ⟨hs rfl, hs rfl, hs rfl, hs' rfl (le_int (inc64 (by omega))), trivial⟩ trivial rfl⟩
  · skip
    refine cExit ?_
    refine tE ?_
    refine tE ?_
    refine bE ?_
    refine tN ?_
    refine cSeq ?_
    refine cReg ?_
    refine mV hTT _ rfl ?_
    refine mNil ?_
    refine tN ?_
    refine cRet ?_
    exact rQ rfl (AV.le.rfl)

end Go.Proofs.YtcnfblffeghboaaGreat

/-
  POLYNOMIALS, by the machine (3): the program's.
-/
set_option linter.unusedVariables false
set_option linter.unusedSimpArgs false
namespace Go.Proofs.YtcnfblffeghboaaGreat
open Go.RowKit

def upd (c : Nat → Int) (i : Nat) : Nat → Int := fun p => if p < i then c p else 0
theorem upd_self {c : Nat → Int} {i : Nat} : c i = upd c (i + 1) i := (if_pos (Nat.lt_succ_self i)).symm
theorem upd_ne {c : Nat → Int} {i p : Nat} (h : p ≠ i) : upd c i p = upd c (i + 1) p := by
  unfold upd
  by_cases h1 : p < i
  · rw [if_pos h1, if_pos (by omega)]
  · rw [if_neg h1, if_neg (by omega)]
theorem fx_pos {n k : Nat} {f : Nat → Bool × List Nat} (h : k < n) : fx n f k = f k := if_pos h
theorem fx_neg {n k : Nat} {f : Nat → Bool × List Nat} (h : ¬ k < n) : fx n f k = (false, []) := if_neg h
theorem nil_at {K : Nat} : AV.le (.d (.agg [.v (.bool false), .v (.slice none 0 0)])) (.d (.agg [.v (.bool false), lr K []])) := le_agg fun B w cs h => match cs, h with | [_, _], ⟨h1, h2, h3⟩ => ⟨h1, nil_lr K (fun _ => none) B w _ h2, h3⟩
set_option maxRecDepth 100000 in
set_option maxHeartbeats 4000000 in
theorem aPAt {K n k : Nat} {f : Nat → Bool × List Nat} : ACall Tryz.prog 100 [.one (arow K n f), .one (.v (.int .i64 (k : Int)))] (.d (.agg [.v (.bool (fx n f k).1), lr K (fx n f k).2])) := by
  refine acallN hTT 14 [.cell 4 26] Tryz.func100 rfl rfl rfl rfl rfl ?_
  refine cSeq ?_
  refine cReg ?_
  refine mN hTT (.box 26 ([.v (.bool false), .v (.slice none 0 0)])) rfl rfl rfl ?_
  refine mNil ?_
  refine tN ?_
  refine cSeq ?_
  refine cSeq ?_
  refine cReg ?_
  refine mV hTT _ rfl ?_
  refine mV hTT _ rfl ?_
  refine mV hTT (.d (.one (.v (.int .i64 (n : Int))))) rfl ?_
  refine mV hTT (.d (.one (.v (.bool (decide ((k : Int) < (n : Int))))))) rfl ?_
  refine mNil ?_
  refine tN ?_
  refine cCond rfl (fun hc1 => ?_) (fun hc1 => ?_)
  · skip
    refine cSeq ?_
    have hkn : k < n := by have h0 := of_decide_eq_true hc1; omega
    refine cReg ?_
    refine mV hTT _ rfl ?_
    refine mV hTT _ rfl ?_
    refine mV hTT (.d (.one (.at 2 ((ael K f) k)))) (ixR (el := (ael K f)) (z := (k : Int)) (n := n) rfl rfl rfl rfl rfl rfl (by omega) (by omega)) ?_
    refine mV hTT (.d (.agg ([.v (.bool ((f k).1)), lr K ((f k).2)]))) rfl ?_
    refine mS hTT 4 (.box 26 ([.v (.bool ((f k).1)), lr K ((f k).2)])) rfl ?_
    refine mNil ?_
    refine tN ?_
    refine cRet ?_
    refine tR ?_
    exact rQ rfl (by rw [fx_pos (by have h0 := of_decide_eq_true hc1; omega)]; exact AV.le.rfl)
  · skip
    refine cSkip ?_
    refine tN ?_
    refine cSeq ?_
    refine cReg ?_
    refine mV hTT (.d (.agg ([.v (.bool false), .v (.slice none 0 0)]))) rfl ?_
    refine mS hTT 4 (.box 26 ([.v (.bool false), .v (.slice none 0 0)])) rfl ?_
    refine mNil ?_
    refine tN ?_
    refine cRet ?_
    exact rQ rfl (by rw [fx_neg (by have h0 := of_decide_eq_false hc1; omega)]; exact nil_at)

set_option maxRecDepth 100000 in
set_option maxHeartbeats 4000000 in
theorem aEach {f : FuncId} {nc : Nat} {caps : Nat → Lf} {n K : Nat} {c : Nat → Int} (hf : ∀ i, i < n → ACall Tryz.prog f (.one (.v (.int .i64 (i : Int))) :: capsD caps 0 nc) (.d (.agg (zn K (c i))))) (hn : n ≤ 1000000 := by decide) : ACall Tryz.prog 76 [.one (.v (.int .i64 (n : Int))), .one (.fn f nc caps)] (.d (.one (prow K (dg c n) c))) := by
  refine acallN hTT 23 [.tmp 4] Tryz.func76 rfl rfl rfl rfl rfl ?_
  refine cSeq ?_
  refine cReg ?_
  refine mV hTT _ rfl ?_
  refine mNil ?_
  refine tN ?_
  refine cSeq ?_
  refine cReg ?_
  refine mV hTT _ rfl ?_
  refine mN hTT (.row 26 2 n (fun _ j => .v ((([Value.bool false, Value.slice none 0 0] : List Value)[j]?).getD undef))) (mkO (zl := (n : Int)) (zc := (n : Int)) (bts := 32) rfl rfl rfl rfl rfl (by omega) (by omega) rfl rfl rfl (by omega) (by omega) rfl) rfl rfl ?_
  refine mV hTT _ rfl ?_
  refine mNil ?_
  refine tN ?_
  refine cSeq ?_
  refine cSeq ?_
  refine cReg ?_
  refine mV hTT _ rfl ?_
  refine mV hTT (.d (.one (.v (.int .i64 (n : Int))))) rfl ?_
  refine mV hTT _ rfl ?_
  refine mNil ?_
  refine tN ?_
  refine cBlock ?_
  refine cLoop (ι := Nat) (fun (i : Nat) => ⟨23, [(1, .d (.one (.fn f nc caps))), (10, .d (.one (.v (.int .i64 (n : Int))))), (11, .d (.one (.v (.int .i64 ((i : Nat) : Int))))), (5, .own 8)], [(8, .row 26 2 n (zel K (upd c i)))]⟩) (fun (i : Nat) => i ≤ n) (fun (i : Nat) => n - i) 0 (Nat.zero_le _) (wk (sl := [(1, .d (.one (.fn f nc caps))), (10, .d (.one (.v (.int .i64 (n : Int))))), (11, .d (.one (.v (.int .i64 ((0 : Nat) : Int))))), (5, .own 8)]) (hp := [(8, .row 26 2 n (zel K (upd c 0)))]) rfl ⟨hs rfl, hs rfl, hs rfl, hs rfl, trivial⟩ ⟨ho' rfl (leo_zero (fun i _ => if_neg (Nat.not_lt_zero _))), trivial⟩ rfl) ?_
  rintro i hI
  have hi : i ≤ n := hI
  show AW Tryz.prog _ _ ⟨23, [(1, .d (.one (.fn f nc caps))), (10, .d (.one (.v (.int .i64 (n : Int))))), (11, .d (.one (.v (.int .i64 ((i : Nat) : Int))))), (5, .own 8)], [(8, .row 26 2 n (zel K (upd c i)))]⟩
  refine cSeq ?_
  refine cReg ?_
  refine mV hTT (.d (.one (.v (.bool (decide (((i : Nat) : Int) < (n : Int))))))) rfl ?_
  refine mNil ?_
  refine tN ?_
  refine cSeq ?_
  refine cCond rfl (fun hc1 => ?_) (fun hc1 => ?_)
  · skip
    refine cSkip ?_
    refine tN ?_
    refine cSeq ?_
    refine cBlock ?_
    refine cSeq ?_
    refine cReg ?_
    refine mV hTT _ rfl ?_
    refine mV hTT _ rfl ?_
    refine mNil ?_
    refine tN ?_
    have hin : i < n := by have h0 := of_decide_eq_true hc1; omega
    refine cReg ?_
    refine mV hTT _ rfl ?_
    refine mV hTT _ rfl ?_
    refine mV hTT _ rfl ?_
    refine mV hTT _ rfl ?_
    refine mC (hf i hin) rfl rfl rfl ?_
    refine mV hTT (.eptr 8 2 i 0) (ixO (z := ((i : Nat) : Int)) (n := n) rfl rfl rfl rfl rfl rfl rfl (by omega) (by omega)) ?_
    refine mS hTT 8 (.row 26 2 n (fun p' q' => if p' = i then ((zn K (c i))[q']?).getD (.v undef) else (zel K (upd c i)) p' q')) rfl ?_
    refine mNil ?_
    refine bN ?_
    refine tN ?_
    refine cReg ?_
    refine mV hTT (.d (.one (.v (.int .i64 (IntKind.i64.wrap (((i : Nat) : Int) + 1)))))) rfl ?_
    refine mV hTT _ rfl ?_
    refine mNil ?_
    exact ⟨(i + 1), by omega, by omega, wk (sl := [(1, .d (.one (.fn f nc caps))), (10, .d (.one (.v (.int .i64 (n : Int))))), (11, .d (.one (.v (.int .i64 (((i + 1) : Nat) : Int))))), (5, .own 8)]) (hp := [(8, .row 26 2 n (zel K (upd c (i + 1))))]) rfl ⟨hs rfl, hs rfl, hs' rfl (le_int (inc64 (by omega))), hs rfl, trivial⟩ ⟨ho' rfl (st_z (Nat.le_refl _) (Nat.le_refl _) upd_self (fun p _ hp => upd_ne hp)), trivial⟩ rfl⟩
  · skip
    refine cExit ?_
    refine tE ?_
    refine tE ?_
    refine bE ?_
    refine tN ?_
    refine cSeq ?_
    have hie : n = i := by have h0 := of_decide_eq_false hc1; omega
    subst hie
    refine AW.wk (wkRow 8 rfl) ?_
    refine cView 5 (.d (.one (.row 2 n (zel K c)))) rfl (le_one (prow_le (Nat.le_refl _) (fun i hi => if_pos hi))) ?_
    refine cReg ?_
    refine mV hTT _ rfl ?_
    refine mC0 (aPCut (K := K) (n := n) (c := c) (by omega)) rfl rfl rfl ?_
    refine mV hTT _ rfl ?_
    refine mNil ?_
    refine tN ?_
    refine cRet ?_
    exact rQ rfl (AV.le.rfl)

set_option maxRecDepth 100000 in
set_option maxHeartbeats 4000000 in
theorem aPAdd1 {K L M n m k : Nat} {fa fb : Nat → Bool × List Nat} {c d : Nat → Int} (ea : ∀ i, i < n → fzv fa i = c i) (za : ∀ i, n ≤ i → c i = 0) (eb : ∀ i, i < m → fzv fb i = d i) (zb : ∀ i, m ≤ i → d i = 0) (hM : max K L + 1 ≤ M) (hMM : M ≤ 1000000000) : ACall Tryz.prog 98 [.one (.v (.int .i64 (k : Int))), .one (.at 1 (fun q => (([.row 2 n (ael K fa)] : List Lf)[0 + q]?).getD (.v undef))), .one (.at 1 (fun q => (([.row 2 m (ael L fb)] : List Lf)[0 + q]?).getD (.v undef)))] (.d (.agg (zn M (fadd c d k)))) := by
  refine acallN hTT 12 [.cell 4 26] Tryz.func98 rfl rfl rfl rfl rfl ?_
  refine cSeq ?_
  refine cReg ?_
  refine mN hTT (.box 26 ([.v (.bool false), .v (.slice none 0 0)])) rfl rfl rfl ?_
  refine mNil ?_
  refine tN ?_
  refine cSeq ?_
  refine cDrawK hTT 7 (by kernel_rfl) (by kernel_rfl) (by kernel_rfl) ?_
  refine .cons (OpS.V (.d (.one (.row 2 n (ael K fa)))) rfl) ?_
  refine .cons (OpS.V _ rfl) ?_
  refine .cons (OpS.C0 (aPAt (K := K) (n := n) (f := fa) (k := k)) rfl rfl rfl) ?_
  refine .cons (OpS.V (.d (.one (.row 2 m (ael L fb)))) rfl) ?_
  refine .cons (OpS.V _ rfl) ?_
  refine .cons (OpS.C0 (aPAt (K := L) (n := m) (f := fb) (k := k)) rfl rfl rfl) ?_
  refine .cons (OpS.C0 (aAdd ⟨_, _, fun _ _ _ h => h, fx_z ea za⟩ ⟨_, _, fun _ _ _ h => h, fx_z eb zb⟩ (M := (max K L + 1)) (by omega) (by omega) (by omega)) rfl rfl rfl) ?_
  refine .nil ?_
  refine mS hTT 4 (.box 26 (zn (max K L + 1) ((c k) + (d k)))) rfl ?_
  refine mNil ?_
  refine tN ?_
  refine cRet ?_
  exact rQ rfl (le_zn hM rfl)

set_option maxRecDepth 100000 in
set_option maxHeartbeats 4000000 in
theorem aPAdd {a b : Lf} {K L M n m : Nat} {c d : Nat → Int} (ha : IsP a K n c) (hb : IsP b L m d) (hM : max K L + 1 ≤ M := by decide) (hn : max n m ≤ 1000000 := by decide) (hMM : M ≤ 1000000000 := by decide) : ACall Tryz.prog 70 [.one a, .one b] (.d (.one (prow M (dg (fadd c d) (max n m)) (fadd c d)))) := by
  obtain ⟨⟨fa, ha, ea⟩, za⟩ := ha
  obtain ⟨⟨fb, hb, eb⟩, zb⟩ := hb
  refine ACall.le (dl (DV.l ha) (dl (DV.l hb) dl0)) AV.le.rfl ?_
  refine acallN hTT 12 [.tmp 4] Tryz.func70 rfl rfl rfl rfl rfl ?_
  refine cSeq ?_
  refine cReg ?_
  refine mN hTT (.box 23 ([.row 2 n (ael K fa)])) rfl rfl rfl ?_
  refine mN hTT (.box 23 ([.row 2 m (ael L fb)])) rfl rfl rfl ?_
  refine mV hTT _ rfl ?_
  refine mNil ?_
  refine tN ?_
  refine cSeq ?_
  refine AW.wk (wkBox 2 rfl) ?_
  refine AW.wk (wkBox 3 rfl) ?_
  refine cReg ?_
  refine mV hTT (.d (.one (.row 2 n (ael K fa)))) rfl ?_
  refine mV hTT (.d (.one (.v (.int .i64 (n : Int))))) rfl ?_
  refine mV hTT (.d (.one (.row 2 m (ael L fb)))) rfl ?_
  refine mV hTT (.d (.one (.v (.int .i64 (m : Int))))) rfl ?_
  refine mV hTT (.d (.one (.v (.int .i64 ((max n m : Nat) : Int))))) (evi (maxNN n m)) ?_
  refine mV hTT _ rfl ?_
  refine mC0 (aEach (n := (max n m)) (K := M) (c := (fadd c d)) (fun i hi => aPAdd1 ea za eb zb hM hMM) (by omega)) rfl rfl rfl ?_
  refine mV hTT _ rfl ?_
  refine mNil ?_
  refine tN ?_
  refine cRet ?_
  exact rQ rfl (AV.le.rfl)

set_option maxRecDepth 100000 in
set_option maxHeartbeats 4000000 in
theorem aPScale1 {K n k : Nat} {fa : Nat → Bool × List Nat} {c : Nat → Int} (ea : ∀ i, i < n → fzv fa i = c i) {L M : Nat} {s : Bool} {xs : List Nat} {y : Int} (hy : zv s (val xs) = y) (hk : k < n) (hM : K + L ≤ M) (hMM : M ≤ 1000000000) : ACall Tryz.prog 77 [.one (.v (.int .i64 (k : Int))), .one (.at 1 (fun q => (([.row 2 n (ael K fa)] : List Lf)[0 + q]?).getD (.v undef))), .one (.at 2 (fun q => (([.v (.bool s), lr L xs] : List Lf)[0 + q]?).getD (.v undef)))] (.d (.agg (zn M (fscl c y k)))) := by
  refine acallN hTT 11 [.cell 4 26] Tryz.func77 rfl rfl rfl rfl rfl ?_
  refine cSeq ?_
  refine cReg ?_
  refine mN hTT (.box 26 ([.v (.bool false), .v (.slice none 0 0)])) rfl rfl rfl ?_
  refine mNil ?_
  refine tN ?_
  refine cSeq ?_
  refine cDrawK hTT 6 (by kernel_rfl) (by kernel_rfl) (by kernel_rfl) ?_
  refine .cons (OpS.V (.d (.one (.row 2 n (ael K fa)))) rfl) ?_
  refine .cons (OpS.V _ rfl) ?_
  refine .cons (OpS.V (.d (.one (.at 2 ((ael K fa) k)))) (ixR (el := (ael K fa)) (z := (k : Int)) (n := n) rfl rfl rfl rfl rfl rfl (by omega) (by omega))) ?_
  refine .cons (OpS.V (.d (.agg ([.v (.bool ((fa k).1)), lr K ((fa k).2)]))) rfl) ?_
  refine .cons (OpS.V (.d (.agg ([.v (.bool s), lr L xs]))) rfl) ?_
  refine .cons (OpS.C0 (aMul ⟨_, _, fun _ _ _ h => h, ea k (by omega)⟩ ⟨_, _, fun _ _ _ h => h, hy⟩ (M := (K + L)) (by omega) (by omega) (by omega)) rfl rfl rfl) ?_
  refine .nil ?_
  refine mS hTT 4 (.box 26 (zn (K + L) ((c k) * y))) rfl ?_
  refine mNil ?_
  refine tN ?_
  refine cRet ?_
  exact rQ rfl (le_zn hM rfl)

set_option maxRecDepth 100000 in
set_option maxHeartbeats 4000000 in
theorem aPScale {a : Lf} {b : List Lf} {K L M n : Nat} {c : Nat → Int} {y : Int} (ha : IsP a K n c) (hb : IsZ b L y) (hM : K + L ≤ M := by decide) (hn : n ≤ 1000000 := by decide) (hMM : M ≤ 1000000000 := by decide) : ACall Tryz.prog 35 [.one a, .agg b] (.d (.one (prow M (dg (fscl c y) (n)) (fscl c y)))) := by
  obtain ⟨⟨fa, ha, ea⟩, za⟩ := ha
  obtain ⟨s, xs, hb, hy⟩ := hb
  refine ACall.le (dl (DV.l ha) (dl (DV.z hb) dl0)) AV.le.rfl ?_
  refine acallN hTT 9 [.tmp 4] Tryz.func35 rfl rfl rfl rfl rfl ?_
  refine cSeq ?_
  refine cReg ?_
  refine mN hTT (.box 23 ([.row 2 n (ael K fa)])) rfl rfl rfl ?_
  refine mN hTT (.box 26 ([.v (.bool s), lr L xs])) rfl rfl rfl ?_
  refine mV hTT _ rfl ?_
  refine mNil ?_
  refine tN ?_
  refine cSeq ?_
  refine AW.wk (wkBox 2 rfl) ?_
  refine AW.wk (wkBox 3 rfl) ?_
  refine cReg ?_
  refine mV hTT (.d (.one (.row 2 n (ael K fa)))) rfl ?_
  refine mV hTT (.d (.one (.v (.int .i64 (n : Int))))) rfl ?_
  refine mV hTT _ rfl ?_
  refine mC0 (aEach (n := n) (K := M) (c := (fscl c y)) (fun i hi => aPScale1 ea hy hi hM hMM) (by omega)) rfl rfl rfl ?_
  refine mV hTT _ rfl ?_
  refine mNil ?_
  refine tN ?_
  refine cRet ?_
  exact rQ rfl (AV.le.rfl)

set_option maxRecDepth 100000 in
set_option maxHeartbeats 4000000 in
theorem aPNorm {a : Lf} {K n : Nat} {c : Nat → Int} (ha : IsP a K n c) (hn : n ≤ 1000000 := by decide) (hK : K ≤ 1000000000 := by decide) : ACall Tryz.prog 30 [.one a] (.d (.one (prow K (dg c (n)) c))) := by
  obtain ⟨⟨fa, ha, ea⟩, za⟩ := ha
  refine ACall.le (dl (DV.l ha) dl0) AV.le.rfl ?_
  refine acallN hTT 24 [.tmp 2] Tryz.func30 rfl rfl rfl rfl rfl ?_
  refine cSeq ?_
  refine cReg ?_
  refine mV hTT _ rfl ?_
  refine mNil ?_
  refine tN ?_
  refine cSeq ?_
  refine cReg ?_
  refine mV hTT _ rfl ?_
  refine mV hTT (.d (.one (.v (.int .i64 (n : Int))))) rfl ?_
  refine mN hTT (.row 26 2 n (fun _ j => .v ((([Value.bool false, Value.slice none 0 0] : List Value)[j]?).getD undef))) (mkO (zl := (n : Int)) (zc := (n : Int)) (bts := 32) rfl rfl rfl rfl rfl (by omega) (by omega) rfl rfl rfl (by omega) (by omega) rfl) rfl rfl ?_
  refine mV hTT _ rfl ?_
  refine mNil ?_
  refine tN ?_
  refine cSeq ?_
  refine cSeq ?_
  refine cReg ?_
  refine mV hTT _ rfl ?_
  refine mV hTT (.d (.one (.v (.int .i64 (n : Int))))) rfl ?_
  refine mV hTT _ rfl ?_
  refine mNil ?_
  refine tN ?_
  refine cBlock ?_
  refine cLoop (ι := Nat) (fun (i : Nat) => ⟨24, [(9, .d (.one (.row 2 n (ael K fa)))), (10, .d (.one (.v (.int .i64 (n : Int))))), (11, .d (.one (.v (.int .i64 ((i : Nat) : Int))))), (3, .own 8)], [(8, .row 26 2 n (zel K (upd c i)))]⟩) (fun (i : Nat) => i ≤ n) (fun (i : Nat) => n - i) 0 (Nat.zero_le _) (wk (sl := [(9, .d (.one (.row 2 n (ael K fa)))), (10, .d (.one (.v (.int .i64 (n : Int))))), (11, .d (.one (.v (.int .i64 ((0 : Nat) : Int))))), (3, .own 8)]) (hp := [(8, .row 26 2 n (zel K (upd c 0)))]) rfl ⟨hs rfl, hs rfl, hs rfl, hs rfl, trivial⟩ ⟨ho' rfl (leo_zero (fun i _ => if_neg (Nat.not_lt_zero _))), trivial⟩ rfl) ?_
  rintro i hI
  have hi : i ≤ n := hI
  show AW Tryz.prog _ _ ⟨24, [(9, .d (.one (.row 2 n (ael K fa)))), (10, .d (.one (.v (.int .i64 (n : Int))))), (11, .d (.one (.v (.int .i64 ((i : Nat) : Int))))), (3, .own 8)], [(8, .row 26 2 n (zel K (upd c i)))]⟩
  refine cSeq ?_
  refine cReg ?_
  refine mV hTT (.d (.one (.v (.bool (decide (((i : Nat) : Int) < (n : Int))))))) rfl ?_
  refine mNil ?_
  refine tN ?_
  refine cSeq ?_
  refine cCond rfl (fun hc1 => ?_) (fun hc1 => ?_)
  · skip
    refine cSkip ?_
    refine tN ?_
    refine cSeq ?_
    refine cBlock ?_
    refine cSeq ?_
    have hin : i < n := by have h0 := of_decide_eq_true hc1; omega
    refine cReg ?_
    refine mV hTT _ rfl ?_
    refine mV hTT (.d (.one (.at 2 ((ael K fa) i)))) (ixR (el := (ael K fa)) (z := ((i : Nat) : Int)) (n := n) rfl rfl rfl rfl rfl rfl (by omega) (by omega)) ?_
    refine mV hTT (.d (.agg ([.v (.bool ((fa i).1)), lr K ((fa i).2)]))) rfl ?_
    refine mN hTT (.box 26 ([.v (.bool false), .v (.slice none 0 0)])) rfl rfl rfl ?_
    refine mV hTT _ rfl ?_
    refine mS hTT 5 (.box 26 ([.v (.bool ((fa i).1)), lr K ((fa i).2)])) rfl ?_
    refine mNil ?_
    refine tN ?_
    refine cReg ?_
    refine mV hTT _ rfl ?_
    refine mV hTT _ rfl ?_
    refine mV hTT (.d (.agg ([.v (.bool ((fa i).1)), lr K ((fa i).2)]))) rfl ?_
    refine mC0 (aNorm ⟨_, _, fun _ _ _ h => h, ea i (by omega)⟩ (by omega)) rfl rfl rfl ?_
    refine mV hTT (.eptr 8 2 i 0) (ixO (z := ((i : Nat) : Int)) (n := n) rfl rfl rfl rfl rfl rfl rfl (by omega) (by omega)) ?_
    refine mS hTT 8 (.row 26 2 n (fun p' q' => if p' = i then ((zn K (c i))[q']?).getD (.v undef) else (zel K (upd c i)) p' q')) rfl ?_
    refine mNil ?_
    refine bN ?_
    refine tN ?_
    refine cReg ?_
    refine mV hTT (.d (.one (.v (.int .i64 (IntKind.i64.wrap (((i : Nat) : Int) + 1)))))) rfl ?_
    refine mV hTT _ rfl ?_
    refine mNil ?_
    exact ⟨(i + 1), by omega, by omega, wk (sl := [(9, .d (.one (.row 2 n (ael K fa)))), (10, .d (.one (.v (.int .i64 (n : Int))))), (11, .d (.one (.v (.int .i64 (((i + 1) : Nat) : Int))))), (3, .own 8)]) (hp := [(8, .row 26 2 n (zel K (upd c (i + 1))))]) rfl ⟨hs rfl, hs rfl, hs' rfl (le_int (inc64 (by omega))), hs rfl, trivial⟩ ⟨ho' rfl (st_z (Nat.le_refl _) (Nat.le_refl _) upd_self (fun p _ hp => upd_ne hp)), trivial⟩ rfl⟩
  · skip
    refine cExit ?_
    refine tE ?_
    refine tE ?_
    refine bE ?_
    refine tN ?_
    refine cSeq ?_
    have hie : n = i := by have h0 := of_decide_eq_false hc1; omega
    subst hie
    refine AW.wk (wkRow 8 rfl) ?_
    refine cView 3 (.d (.one (.row 2 n (zel K c)))) rfl (le_one (prow_le (Nat.le_refl _) (fun i hi => if_pos hi))) ?_
    refine cReg ?_
    refine mV hTT _ rfl ?_
    refine mC0 (aPCut (K := K) (n := n) (c := c) (by omega)) rfl rfl rfl ?_
    refine mV hTT _ rfl ?_
    refine mNil ?_
    refine tN ?_
    refine cRet ?_
    exact rQ rfl (AV.le.rfl)

set_option maxRecDepth 100000 in
set_option maxHeartbeats 4000000 in
theorem aPOf {a : Lf} {n : Nat} {c : Nat → Int} (ha : IsI a n c) (hb : ∀ i, i < n → -9223372036854775808 ≤ c i ∧ c i ≤ 9223372036854775807) (hn : n ≤ 1000000 := by decide) : ACall Tryz.prog 37 [.one a] (.d (.one (prow 2 (dg c (n)) c))) := by
  obtain ⟨ha, za⟩ := ha
  refine ACall.le (dl (DV.l ha) dl0) AV.le.rfl ?_
  refine acallN hTT 24 [.tmp 2] Tryz.func37 rfl rfl rfl rfl rfl ?_
  refine cSeq ?_
  refine cReg ?_
  refine mV hTT _ rfl ?_
  refine mNil ?_
  refine tN ?_
  refine cSeq ?_
  refine cReg ?_
  refine mV hTT _ rfl ?_
  refine mV hTT (.d (.one (.v (.int .i64 (n : Int))))) rfl ?_
  refine mN hTT (.row 26 2 n (fun _ j => .v ((([Value.bool false, Value.slice none 0 0] : List Value)[j]?).getD undef))) (mkO (zl := (n : Int)) (zc := (n : Int)) (bts := 32) rfl rfl rfl rfl rfl (by omega) (by omega) rfl rfl rfl (by omega) (by omega) rfl) rfl rfl ?_
  refine mV hTT _ rfl ?_
  refine mNil ?_
  refine tN ?_
  refine cSeq ?_
  refine cSeq ?_
  refine cReg ?_
  refine mV hTT _ rfl ?_
  refine mV hTT (.d (.one (.v (.int .i64 (n : Int))))) rfl ?_
  refine mV hTT _ rfl ?_
  refine mNil ?_
  refine tN ?_
  refine cBlock ?_
  refine cLoop (ι := Nat) (fun (i : Nat) => ⟨24, [(9, .d (.one (.row 1 n (fun i _ => .v (.int .i64 (c i)))))), (10, .d (.one (.v (.int .i64 (n : Int))))), (11, .d (.one (.v (.int .i64 ((i : Nat) : Int))))), (3, .own 8)], [(8, .row 26 2 n (zel 2 (upd c i)))]⟩) (fun (i : Nat) => i ≤ n) (fun (i : Nat) => n - i) 0 (Nat.zero_le _) (wk (sl := [(9, .d (.one (.row 1 n (fun i _ => .v (.int .i64 (c i)))))), (10, .d (.one (.v (.int .i64 (n : Int))))), (11, .d (.one (.v (.int .i64 ((0 : Nat) : Int))))), (3, .own 8)]) (hp := [(8, .row 26 2 n (zel 2 (upd c 0)))]) rfl ⟨hs rfl, hs rfl, hs rfl, hs rfl, trivial⟩ ⟨ho' rfl (leo_zero (fun i _ => if_neg (Nat.not_lt_zero _))), trivial⟩ rfl) ?_
  rintro i hI
  have hi : i ≤ n := hI
  show AW Tryz.prog _ _ ⟨24, [(9, .d (.one (.row 1 n (fun i _ => .v (.int .i64 (c i)))))), (10, .d (.one (.v (.int .i64 (n : Int))))), (11, .d (.one (.v (.int .i64 ((i : Nat) : Int))))), (3, .own 8)], [(8, .row 26 2 n (zel 2 (upd c i)))]⟩
  refine cSeq ?_
  refine cReg ?_
  refine mV hTT (.d (.one (.v (.bool (decide (((i : Nat) : Int) < (n : Int))))))) rfl ?_
  refine mNil ?_
  refine tN ?_
  refine cSeq ?_
  refine cCond rfl (fun hc1 => ?_) (fun hc1 => ?_)
  · skip
    refine cSkip ?_
    refine tN ?_
    refine cSeq ?_
    refine cBlock ?_
    refine cSeq ?_
    have hin : i < n := by have h0 := of_decide_eq_true hc1; omega
    refine cReg ?_
    refine mV hTT _ rfl ?_
    refine mV hTT (.d (.one (.at 1 ((fun i _ => .v (.int .i64 (c i))) i)))) (ixR (el := (fun i _ => .v (.int .i64 (c i)))) (z := ((i : Nat) : Int)) (n := n) rfl rfl rfl rfl rfl rfl (by omega) (by omega)) ?_
    refine mV hTT (.d (.one (.v (.int .i64 (c i))))) rfl ?_
    refine mV hTT _ rfl ?_
    refine mV hTT _ rfl ?_
    refine mNil ?_
    refine tN ?_
    refine cReg ?_
    refine mV hTT _ rfl ?_
    refine mV hTT _ rfl ?_
    refine mV hTT _ rfl ?_
    refine mC0 (aOf (n := c i) (hb i hin).1 (hb i hin).2) rfl rfl rfl ?_
    refine mV hTT (.eptr 8 2 i 0) (ixO (z := ((i : Nat) : Int)) (n := n) rfl rfl rfl rfl rfl rfl rfl (by omega) (by omega)) ?_
    refine mS hTT 8 (.row 26 2 n (fun p' q' => if p' = i then ((zn 2 (c i))[q']?).getD (.v undef) else (zel 2 (upd c i)) p' q')) rfl ?_
    refine mNil ?_
    refine bN ?_
    refine tN ?_
    refine cReg ?_
    refine mV hTT (.d (.one (.v (.int .i64 (IntKind.i64.wrap (((i : Nat) : Int) + 1)))))) rfl ?_
    refine mV hTT _ rfl ?_
    refine mNil ?_
    exact ⟨(i + 1), by omega, by omega, wk (sl := [(9, .d (.one (.row 1 n (fun i _ => .v (.int .i64 (c i)))))), (10, .d (.one (.v (.int .i64 (n : Int))))), (11, .d (.one (.v (.int .i64 (((i + 1) : Nat) : Int))))), (3, .own 8)]) (hp := [(8, .row 26 2 n (zel 2 (upd c (i + 1))))]) rfl ⟨hs rfl, hs rfl, hs' rfl (le_int (inc64 (by omega))), hs rfl, trivial⟩ ⟨ho' rfl (st_z (Nat.le_refl _) (Nat.le_refl _) upd_self (fun p _ hp => upd_ne hp)), trivial⟩ rfl⟩
  · skip
    refine cExit ?_
    refine tE ?_
    refine tE ?_
    refine bE ?_
    refine tN ?_
    refine cSeq ?_
    have hie : n = i := by have h0 := of_decide_eq_false hc1; omega
    subst hie
    refine AW.wk (wkRow 8 rfl) ?_
    refine cView 3 (.d (.one (.row 2 n (zel 2 c)))) rfl (le_one (prow_le (Nat.le_refl _) (fun i hi => if_pos hi))) ?_
    refine cReg ?_
    refine mV hTT _ rfl ?_
    refine mC0 (aPCut (K := 2) (n := n) (c := c) (by omega)) rfl rfl rfl ?_
    refine mV hTT _ rfl ?_
    refine mNil ?_
    refine tN ?_
    refine cRet ?_
    exact rQ rfl (AV.le.rfl)

end Go.Proofs.YtcnfblffeghboaaGreat

/-
  POLYNOMIALS, by the machine (4): products, sums of many, Move.
-/
set_option linter.unusedVariables false
set_option linter.unusedSimpArgs false
namespace Go.Proofs.YtcnfblffeghboaaGreat
open Go.RowKit

set_option maxRecDepth 100000 in
set_option maxHeartbeats 4000000 in
theorem aPMul {a b : Lf} {K L M n m D : Nat} {c d : Nat → Int} (ha : IsP a K n c) (hb : IsP b L m d) (hD : n ≤ D) (hm : m ≤ 1000) (hM : K + L + 1 + D * 1000 ≤ M := by decide) (hDD : D ≤ 1000 := by decide) (hMM : M ≤ 1000000000 := by decide) : ACall Tryz.prog 71 [.one a, .one b] (.d (.one (prow M (dg (conv c d) (n + m)) (conv c d)))) := by
  obtain ⟨⟨fa, ha, ea⟩, za⟩ := ha
  obtain ⟨⟨fb, hb, eb⟩, zb⟩ := hb
  refine ACall.le (dl (DV.l ha) (dl (DV.l hb) dl0)) AV.le.rfl ?_
  refine acallN hTT 62 [.tmp 4] Tryz.func71 rfl rfl rfl rfl rfl ?_
  refine cSeq ?_
  refine cReg ?_
  refine mV hTT _ rfl ?_
  refine mNil ?_
  refine tN ?_
  refine cSeq ?_
  refine cReg ?_
  refine mV hTT _ rfl ?_
  refine mC0 (aPNorm (⟨⟨fa, fun _ _ _ h => h, ea⟩, za⟩ : IsP (arow K n fa) K n c) (by omega) (by omega)) rfl rfl rfl ?_
  refine mV hTT _ rfl ?_
  refine mC0 (aPNorm (⟨⟨fb, fun _ _ _ h => h, eb⟩, zb⟩ : IsP (arow L m fb) L m d) (by omega) (by omega)) rfl rfl rfl ?_
  refine mV hTT _ rfl ?_
  refine mV hTT _ rfl ?_
  refine mNil ?_
  refine tN ?_
  refine cSeq ?_
  refine cSeq ?_
  have hla := dg_le c n
  have hlb := dg_le d m
  by_cases h0a : (dg c n) = 0
  · skip
    refine cReg ?_
    refine mV hTT _ rfl ?_
    refine mV hTT (.d (.one (.v (.int .i64 ((dg c n : Nat) : Int))))) rfl ?_
    refine mV hTT (.d (.one (.v (.bool true)))) (evb (by rw [h0a]; rfl)) ?_
    refine mV hTT _ rfl ?_
    refine mG rfl rfl ?_
    refine mG rfl rfl ?_
    refine mG rfl rfl ?_
    refine mV hTT _ rfl ?_
    refine mNil ?_
    refine tN ?_
    refine cT rfl ?_
    refine cSeq ?_
    refine cReg ?_
    refine mV hTT _ rfl ?_
    refine mNil ?_
    refine tN ?_
    refine cRet ?_
    refine tR ?_
    exact rQ rfl (nil_prow' (dg_zero (conv_l0 (dg_all za h0a)) _))
  · skip
    by_cases h0b : (dg d m) = 0
    · skip
      refine cReg ?_
      refine mV hTT _ rfl ?_
      refine mV hTT (.d (.one (.v (.int .i64 ((dg c n : Nat) : Int))))) rfl ?_
      refine mV hTT (.d (.one (.v (.bool false)))) (evb (beq_eq_false_iff_ne.2 fun e => h0a (by omega))) ?_
      refine mV hTT _ rfl ?_
      refine mV hTT _ rfl ?_
      refine mV hTT (.d (.one (.v (.int .i64 ((dg d m : Nat) : Int))))) rfl ?_
      refine mV hTT (.d (.one (.v (.bool true)))) (evb (by rw [h0b]; rfl)) ?_
      refine mV hTT _ rfl ?_
      refine mNil ?_
      refine tN ?_
      refine cT rfl ?_
      refine cSeq ?_
      refine cReg ?_
      refine mV hTT _ rfl ?_
      refine mNil ?_
      refine tN ?_
      refine cRet ?_
      refine tR ?_
      exact rQ rfl (nil_prow' (dg_zero (conv_r0 (dg_all zb h0b)) _))
    · skip
      refine cReg ?_
      refine mV hTT _ rfl ?_
      refine mV hTT (.d (.one (.v (.int .i64 ((dg c n : Nat) : Int))))) rfl ?_
      refine mV hTT (.d (.one (.v (.bool false)))) (evb (beq_eq_false_iff_ne.2 fun e => h0a (by omega))) ?_
      refine mV hTT _ rfl ?_
      refine mV hTT _ rfl ?_
      refine mV hTT (.d (.one (.v (.int .i64 ((dg d m : Nat) : Int))))) rfl ?_
      refine mV hTT (.d (.one (.v (.bool false)))) (evb (beq_eq_false_iff_ne.2 fun e => h0b (by omega))) ?_
      refine mV hTT _ rfl ?_
      refine mNil ?_
      refine tN ?_
      refine cF rfl ?_
      refine cSkip ?_
      refine tN ?_
      refine cSeq ?_
      refine cReg ?_
      refine mV hTT _ rfl ?_
      refine mV hTT (.d (.one (.v (.int .i64 ((dg c n : Nat) : Int))))) rfl ?_
      refine mV hTT _ rfl ?_
      refine mV hTT (.d (.one (.v (.int .i64 ((dg d m : Nat) : Int))))) rfl ?_
      refine mV hTT (.d (.one (.v (.int .i64 ((dg c n + dg d m : Nat) : Int))))) (evi ((wr64 (by omega) (by omega)).trans (by omega))) ?_
      refine mV hTT (.d (.one (.v (.int .i64 ((dg c n + dg d m - 1 : Nat) : Int))))) (evi ((wr64 (by omega) (by omega)).trans (by omega))) ?_
      refine mN hTT (.row 26 2 (dg c n + dg d m - 1) (fun _ j => .v ((([Value.bool false, Value.slice none 0 0] : List Value)[j]?).getD undef))) (mkO (zl := ((dg c n + dg d m - 1 : Nat) : Int)) (zc := ((dg c n + dg d m - 1 : Nat) : Int)) (bts := 32) rfl rfl rfl rfl rfl (by omega) (by omega) rfl rfl rfl (by omega) (by omega) rfl) rfl rfl ?_
      refine mV hTT _ rfl ?_
      refine mNil ?_
      refine tN ?_
      refine cSeq ?_
      refine cSeq ?_
      refine cReg ?_
      refine mV hTT _ rfl ?_
      refine mV hTT (.d (.one (.v (.int .i64 ((dg c n : Nat) : Int))))) rfl ?_
      refine mV hTT _ rfl ?_
      refine mNil ?_
      refine tN ?_
      refine cBlock ?_
      refine cLoop (ι := Nat) (fun (i : Nat) => ⟨62, [(1, .d (.one (.row 2 (dg d m) (zel L d)))), (5, .own 28), (29, .d (.one (.row 2 (dg c n) (zel K c)))), (30, .d (.one (.v (.int .i64 ((dg c n : Nat) : Int))))), (31, .d (.one (.v (.int .i64 ((i : Nat) : Int)))))], [(28, .row 26 2 (dg c n + dg d m - 1) (zel (K + L + 1 + i * 1000) (cv c d i)))]⟩) (fun (i : Nat) => i ≤ dg c n) (fun (i : Nat) => dg c n - i) 0 (Nat.zero_le _) (wk (sl := [(1, .d (.one (.row 2 (dg d m) (zel L d)))), (5, .own 28), (29, .d (.one (.row 2 (dg c n) (zel K c)))), (30, .d (.one (.v (.int .i64 ((dg c n : Nat) : Int))))), (31, .d (.one (.v (.int .i64 ((0 : Nat) : Int)))))]) (hp := [(28, .row 26 2 (dg c n + dg d m - 1) (zel (K + L + 1 + 0 * 1000) (cv c d 0)))]) rfl ⟨hs rfl, hs rfl, hs rfl, hs rfl, hs rfl, trivial⟩ ⟨ho' rfl (leo_zero (fun _ _ => rfl)), trivial⟩ rfl) ?_
      rintro i hI
      have hi : i ≤ dg c n := hI
      show AW Tryz.prog _ _ ⟨62, [(1, .d (.one (.row 2 (dg d m) (zel L d)))), (5, .own 28), (29, .d (.one (.row 2 (dg c n) (zel K c)))), (30, .d (.one (.v (.int .i64 ((dg c n : Nat) : Int))))), (31, .d (.one (.v (.int .i64 ((i : Nat) : Int)))))], [(28, .row 26 2 (dg c n + dg d m - 1) (zel (K + L + 1 + i * 1000) (cv c d i)))]⟩
      refine cSeq ?_
      refine cReg ?_
      refine mV hTT (.d (.one (.v (.bool (decide (((i : Nat) : Int) < ((dg c n : Nat) : Int))))))) rfl ?_
      refine mNil ?_
      refine tN ?_
      refine cSeq ?_
      refine cCond rfl (fun hc1 => ?_) (fun hc1 => ?_)
      · skip
        refine cSkip ?_
        refine tN ?_
        refine cSeq ?_
        refine cBlock ?_
        refine cSeq ?_
        have hia : i < dg c n := by have h0 := of_decide_eq_true hc1; omega
        refine cReg ?_
        refine mV hTT _ rfl ?_
        refine mV hTT (.d (.one (.at 2 ((zel K c) i)))) (ixR (el := (zel K c)) (z := ((i : Nat) : Int)) (n := (dg c n)) rfl rfl rfl rfl rfl rfl (by omega) (by omega)) ?_
        refine mV hTT (.d (.agg (zn K (c i)))) rfl ?_
        refine mN hTT (.box 26 ([.v (.bool false), .v (.slice none 0 0)])) rfl rfl rfl ?_
        refine mV hTT _ rfl ?_
        refine mS hTT 7 (.box 26 (zn K (c i))) rfl ?_
        refine mNil ?_
        refine tN ?_
        refine cSeq ?_
        refine cReg ?_
        refine mV hTT _ rfl ?_
        refine mV hTT (.d (.one (.v (.int .i64 ((dg d m : Nat) : Int))))) rfl ?_
        refine mV hTT _ rfl ?_
        refine mNil ?_
        refine tN ?_
        refine cBlock ?_
        refine cLoop (ι := Nat) (fun (k : Nat) => ⟨62, [(1, .d (.one (.row 2 (dg d m) (zel L d)))), (5, .own 28), (29, .d (.one (.row 2 (dg c n) (zel K c)))), (30, .d (.one (.v (.int .i64 ((dg c n : Nat) : Int))))), (31, .d (.one (.v (.int .i64 ((i : Nat) : Int))))), (6, .d (.one (.v (.int .i64 ((i : Nat) : Int))))), (7, .ptr 7 0), (36, .d (.one (.row 2 (dg d m) (zel L d)))), (37, .d (.one (.v (.int .i64 ((dg d m : Nat) : Int))))), (38, .d (.one (.v (.int .i64 ((k : Nat) : Int)))))], [(7, .box 26 (zn K (c i))), (28, .row 26 2 (dg c n + dg d m - 1) (zel (K + L + 1 + i * 1000 + k) (cvk c d i k)))]⟩) (fun (k : Nat) => k ≤ dg d m) (fun (k : Nat) => dg d m - k) 0 (Nat.zero_le _) (wk (sl := [(1, .d (.one (.row 2 (dg d m) (zel L d)))), (5, .own 28), (29, .d (.one (.row 2 (dg c n) (zel K c)))), (30, .d (.one (.v (.int .i64 ((dg c n : Nat) : Int))))), (31, .d (.one (.v (.int .i64 ((i : Nat) : Int))))), (6, .d (.one (.v (.int .i64 ((i : Nat) : Int))))), (7, .ptr 7 0), (36, .d (.one (.row 2 (dg d m) (zel L d)))), (37, .d (.one (.v (.int .i64 ((dg d m : Nat) : Int))))), (38, .d (.one (.v (.int .i64 ((0 : Nat) : Int)))))]) (hp := [(7, .box 26 (zn K (c i))), (28, .row 26 2 (dg c n + dg d m - 1) (zel (K + L + 1 + i * 1000 + 0) (cvk c d i 0)))]) rfl ⟨hs rfl, hs rfl, hs rfl, hs rfl, hs rfl, hs rfl, hs rfl, hs rfl, hs rfl, hs rfl, trivial⟩ ⟨ho rfl, ho' rfl (leo_prow (by omega) (fun j _ => cvk_zero.symm)), trivial⟩ rfl) ?_
        rintro k hI
        have hk : k ≤ dg d m := hI
        show AW Tryz.prog _ _ ⟨62, [(1, .d (.one (.row 2 (dg d m) (zel L d)))), (5, .own 28), (29, .d (.one (.row 2 (dg c n) (zel K c)))), (30, .d (.one (.v (.int .i64 ((dg c n : Nat) : Int))))), (31, .d (.one (.v (.int .i64 ((i : Nat) : Int))))), (6, .d (.one (.v (.int .i64 ((i : Nat) : Int))))), (7, .ptr 7 0), (36, .d (.one (.row 2 (dg d m) (zel L d)))), (37, .d (.one (.v (.int .i64 ((dg d m : Nat) : Int))))), (38, .d (.one (.v (.int .i64 ((k : Nat) : Int)))))], [(7, .box 26 (zn K (c i))), (28, .row 26 2 (dg c n + dg d m - 1) (zel (K + L + 1 + i * 1000 + k) (cvk c d i k)))]⟩
        refine cSeq ?_
        refine cReg ?_
        refine mV hTT (.d (.one (.v (.bool (decide (((k : Nat) : Int) < ((dg d m : Nat) : Int))))))) rfl ?_
        refine mNil ?_
        refine tN ?_
        refine cSeq ?_
        refine cCond rfl (fun hc2 => ?_) (fun hc2 => ?_)
        · skip
          refine cSkip ?_
          refine tN ?_
          refine cSeq ?_
          refine cBlock ?_
          refine cSeq ?_
          have hkb : k < dg d m := by have h0 := of_decide_eq_true hc2; omega
          refine cReg ?_
          refine mV hTT _ rfl ?_
          refine mV hTT (.d (.one (.at 2 ((zel L d) k)))) (ixR (el := (zel L d)) (z := ((k : Nat) : Int)) (n := (dg d m)) rfl rfl rfl rfl rfl rfl (by omega) (by omega)) ?_
          refine mV hTT (.d (.agg (zn L (d k)))) rfl ?_
          refine mN hTT (.box 26 ([.v (.bool false), .v (.slice none 0 0)])) rfl rfl rfl ?_
          refine mV hTT _ rfl ?_
          refine mS hTT 9 (.box 26 (zn L (d k))) rfl ?_
          refine mNil ?_
          refine tN ?_
          refine cDrawK hTT 15 (by kernel_rfl) (by kernel_rfl) (by kernel_rfl) ?_
          refine .cons (OpS.V _ rfl) ?_
          refine .cons (OpS.V _ rfl) ?_
          refine .cons (OpS.V _ rfl) ?_
          refine .cons (OpS.V (.d (.one (.v (.int .i64 ((i + k : Nat) : Int))))) (evi ((wr64 (by omega) (by omega)).trans (by omega)))) ?_
          refine .cons (OpS.V _ rfl) ?_
          refine .cons (OpS.V _ rfl) ?_
          refine .cons (OpS.V _ rfl) ?_
          refine .cons (OpS.V (.d (.one (.v (.int .i64 ((i + k : Nat) : Int))))) (evi ((wr64 (by omega) (by omega)).trans (by omega)))) ?_
          refine .cons (OpS.V (.eptr 28 2 (i + k) 0) (ixO (z := ((i + k : Nat) : Int)) (n := (dg c n + dg d m - 1)) rfl rfl rfl rfl rfl rfl rfl (by omega) (by omega))) ?_
          refine .cons (OpS.V (.d (.agg (zn (K + L + 1 + i * 1000 + k) (cvk c d i k (i + k))))) rfl) ?_
          refine .cons (OpS.V (.d (.agg (zn K (c i)))) rfl) ?_
          refine .cons (OpS.V (.d (.agg (zn L (d k)))) rfl) ?_
          refine .cons (OpS.C0 (aMul (isz K (c i)) (isz L (d k)) (M := (K + L)) (by omega) (by omega) (by omega)) rfl rfl rfl) ?_
          refine .cons (OpS.C0 (aAdd (isz (K + L + 1 + i * 1000 + k) (cvk c d i k (i + k))) (isz (K + L) ((c i) * (d k))) (M := (max (K + L + 1 + i * 1000 + k) (K + L) + 1)) (by omega) (by omega) (by omega)) rfl rfl rfl) ?_
          refine .cons (OpS.V (.eptr 28 2 (i + k) 0) (ixO (z := ((i + k : Nat) : Int)) (n := (dg c n + dg d m - 1)) rfl rfl rfl rfl rfl rfl rfl (by omega) (by omega))) ?_
          refine .nil ?_
          refine mS hTT 28 (.row 26 2 (dg c n + dg d m - 1) (fun p' q' => if p' = (i + k) then ((zn (max (K + L + 1 + i * 1000 + k) (K + L) + 1) ((cvk c d i k (i + k)) + ((c i) * (d k))))[q']?).getD (.v undef) else (zel (K + L + 1 + i * 1000 + k) (cvk c d i k)) p' q')) rfl ?_
          refine mNil ?_
          refine bN ?_
          refine tN ?_
          refine cReg ?_
          refine mV hTT (.d (.one (.v (.int .i64 (IntKind.i64.wrap (((k : Nat) : Int) + 1)))))) rfl ?_
          refine mV hTT _ rfl ?_
          refine mNil ?_
          exact ⟨(k + 1), by omega, by omega, wk (sl := [(1, .d (.one (.row 2 (dg d m) (zel L d)))), (5, .own 28), (29, .d (.one (.row 2 (dg c n) (zel K c)))), (30, .d (.one (.v (.int .i64 ((dg c n : Nat) : Int))))), (31, .d (.one (.v (.int .i64 ((i : Nat) : Int))))), (6, .d (.one (.v (.int .i64 ((i : Nat) : Int))))), (7, .ptr 7 0), (36, .d (.one (.row 2 (dg d m) (zel L d)))), (37, .d (.one (.v (.int .i64 ((dg d m : Nat) : Int))))), (38, .d (.one (.v (.int .i64 (((k + 1) : Nat) : Int)))))]) (hp := [(7, .box 26 (zn K (c i))), (28, .row 26 2 (dg c n + dg d m - 1) (zel (K + L + 1 + i * 1000 + (k + 1)) (cvk c d i (k + 1))))]) rfl ⟨hs rfl, hs rfl, hs rfl, hs rfl, hs rfl, hs rfl, hs rfl, hs rfl, hs rfl, hs' rfl (le_int (inc64 (by omega))), trivial⟩ ⟨ho rfl, ho' rfl (st_z (by omega) (by omega) cvk_step (fun p _ hp => cvk_other hp)), trivial⟩ rfl⟩
        · skip
          refine cExit ?_
          refine tE ?_
          refine tE ?_
          refine bE ?_
          refine bN ?_
          refine tN ?_
          have hke : dg d m = k := by have h0 := of_decide_eq_false hc2; omega
          subst hke
          refine cReg ?_
          refine mV hTT (.d (.one (.v (.int .i64 (IntKind.i64.wrap (((i : Nat) : Int) + 1)))))) rfl ?_
          refine mV hTT _ rfl ?_
          refine mNil ?_
          exact ⟨(i + 1), by omega, by omega, wk (sl := [(1, .d (.one (.row 2 (dg d m) (zel L d)))), (5, .own 28), (29, .d (.one (.row 2 (dg c n) (zel K c)))), (30, .d (.one (.v (.int .i64 ((dg c n : Nat) : Int))))), (31, .d (.one (.v (.int .i64 (((i + 1) : Nat) : Int)))))]) (hp := [(28, .row 26 2 (dg c n + dg d m - 1) (zel (K + L + 1 + (i + 1) * 1000) (cv c d (i + 1))))]) rfl ⟨hs rfl, hs rfl, hs rfl, hs rfl, hs' rfl (le_int (inc64 (by omega))), trivial⟩ ⟨ho' rfl (leo_prow (by omega) (fun j _ => cvk_end (dg_z zb))), trivial⟩ rfl⟩
      · skip
        refine cExit ?_
        refine tE ?_
        refine tE ?_
        refine bE ?_
        refine tN ?_
        refine cSeq ?_
        have hie : dg c n = i := by have h0 := of_decide_eq_false hc1; omega
        subst hie
        refine AW.wk (wkRow 28 rfl) ?_
        refine cView 5 (.d (.one (.row 2 (dg c n + dg d m - 1) (zel M (conv c d))))) rfl (le_one (prow_le (by omega) (fun j _ => cv_conv (dg_z za)))) ?_
        refine cReg ?_
        refine mV hTT _ rfl ?_
        refine mC0 (aPCut (K := M) (n := (dg c n + dg d m - 1)) (c := (conv c d)) (by omega)) rfl rfl rfl ?_
        refine mV hTT _ rfl ?_
        refine mNil ?_
        refine tN ?_
        refine cRet ?_
        exact rQ rfl (le_prow (Nat.le_refl _) (dg_eq (fun j hj => conv_beyond (dg_z za) (dg_z zb) (by omega)) (fun j hj => conv_beyond za zb (by omega))) (fun _ _ => rfl))

set_option maxRecDepth 100000 in
set_option maxHeartbeats 4000000 in
theorem aQMul {a b : Lf} {K L M n m D : Nat} {c d : Nat → Rat} (ha : IsQP a K n c) (hb : IsQP b L m d) (hD : n ≤ D) (hm : m ≤ 1000) (hM : (D + 1) * (K + L + 66) ≤ M := by decide) (hDD : D ≤ 1000 := by decide) (hMM : M ≤ 10000000 := by decide) : ACall Tryz.prog 58 [.one a, .one b] (.d (.one (qrow M (dg (conv c d) (n + m)) (conv c d)))) := by
  obtain ⟨ha, za⟩ := ha
  obtain ⟨hb, zb⟩ := hb
  refine ACall.le (dl (DV.l ha) (dl (DV.l hb) dl0)) AV.le.rfl ?_
  obtain ⟨R, hR0, hR1, hRM⟩ : ∃ R : Nat → Nat, 64 ≤ R 0 ∧ (∀ i, R i + (K + L + 66) ≤ R (i + 1)) ∧ ∀ i, i ≤ n → R i ≤ M := ⟨fun i => (i + 1) * (K + L + 66), by simp, fun i => by show (i + 1) * (K + L + 66) + (K + L + 66) ≤ (i + 1 + 1) * (K + L + 66); rw [Nat.succ_mul (i + 1)]; exact Nat.le_refl _, fun i hi => Nat.le_trans (Nat.mul_le_mul_right _ (by omega)) hM⟩
  refine acallN hTT 69 [.tmp 4] Tryz.func58 rfl rfl rfl rfl rfl ?_
  refine cSeq ?_
  refine cReg ?_
  refine mV hTT _ rfl ?_
  refine mNil ?_
  refine tN ?_
  refine cSeq ?_
  refine cSeq ?_
  by_cases h0a : n = 0
  · skip
    refine cReg ?_
    refine mV hTT _ rfl ?_
    refine mV hTT (.d (.one (.v (.int .i64 (n : Int))))) rfl ?_
    refine mV hTT (.d (.one (.v (.bool true)))) (evb (by rw [h0a]; rfl)) ?_
    refine mV hTT _ rfl ?_
    refine mG rfl rfl ?_
    refine mG rfl rfl ?_
    refine mG rfl rfl ?_
    refine mV hTT _ rfl ?_
    refine mNil ?_
    refine tN ?_
    refine cT rfl ?_
    refine cSeq ?_
    refine cReg ?_
    refine mV hTT _ rfl ?_
    refine mNil ?_
    refine tN ?_
    refine cRet ?_
    refine tR ?_
    exact rQ rfl (nil_qrow' (dg_zero (conv_l0Q (fun i => za i (by omega))) _))
  · skip
    by_cases h0b : m = 0
    · skip
      refine cReg ?_
      refine mV hTT _ rfl ?_
      refine mV hTT (.d (.one (.v (.int .i64 (n : Int))))) rfl ?_
      refine mV hTT (.d (.one (.v (.bool false)))) (evb (beq_eq_false_iff_ne.2 fun e => h0a (by omega))) ?_
      refine mV hTT _ rfl ?_
      refine mV hTT _ rfl ?_
      refine mV hTT (.d (.one (.v (.int .i64 (m : Int))))) rfl ?_
      refine mV hTT (.d (.one (.v (.bool true)))) (evb (by rw [h0b]; rfl)) ?_
      refine mV hTT _ rfl ?_
      refine mNil ?_
      refine tN ?_
      refine cT rfl ?_
      refine cSeq ?_
      refine cReg ?_
      refine mV hTT _ rfl ?_
      refine mNil ?_
      refine tN ?_
      refine cRet ?_
      refine tR ?_
      exact rQ rfl (nil_qrow' (dg_zero (conv_r0Q (fun i => zb i (by omega))) _))
    · skip
      refine cReg ?_
      refine mV hTT _ rfl ?_
      refine mV hTT (.d (.one (.v (.int .i64 (n : Int))))) rfl ?_
      refine mV hTT (.d (.one (.v (.bool false)))) (evb (beq_eq_false_iff_ne.2 fun e => h0a (by omega))) ?_
      refine mV hTT _ rfl ?_
      refine mV hTT _ rfl ?_
      refine mV hTT (.d (.one (.v (.int .i64 (m : Int))))) rfl ?_
      refine mV hTT (.d (.one (.v (.bool false)))) (evb (beq_eq_false_iff_ne.2 fun e => h0b (by omega))) ?_
      refine mV hTT _ rfl ?_
      refine mNil ?_
      refine tN ?_
      refine cF rfl ?_
      refine cSkip ?_
      refine tN ?_
      refine cSeq ?_
      refine cReg ?_
      refine mV hTT _ rfl ?_
      refine mV hTT (.d (.one (.v (.int .i64 (n : Int))))) rfl ?_
      refine mV hTT _ rfl ?_
      refine mV hTT (.d (.one (.v (.int .i64 (m : Int))))) rfl ?_
      refine mV hTT (.d (.one (.v (.int .i64 ((n + m : Nat) : Int))))) (evi ((wr64 (by omega) (by omega)).trans (by omega))) ?_
      refine mV hTT (.d (.one (.v (.int .i64 ((n + m - 1 : Nat) : Int))))) (evi ((wr64 (by omega) (by omega)).trans (by omega))) ?_
      refine mN hTT (.row 44 4 (n + m - 1) (fun _ j => .v ((([Value.slice none 0 0, Value.bool false, Value.slice none 0 0, Value.bool false] : List Value)[j]?).getD undef))) (mkO (zl := ((n + m - 1 : Nat) : Int)) (zc := ((n + m - 1 : Nat) : Int)) (bts := 64) rfl rfl rfl rfl rfl (by omega) (by omega) rfl rfl rfl (by omega) (by omega) rfl) rfl rfl ?_
      refine mV hTT _ rfl ?_
      refine mNil ?_
      refine tN ?_
      refine cSeq ?_
      refine cSeq ?_
      refine cReg ?_
      refine mV hTT _ rfl ?_
      refine mV hTT (.d (.one (.v (.int .i64 ((n + m - 1 : Nat) : Int))))) rfl ?_
      refine mV hTT _ rfl ?_
      refine mNil ?_
      refine tN ?_
      refine cBlock ?_
      refine cLoop (ι := Nat) (fun (i : Nat) => ⟨69, [(0, .d (.one (.row 4 n (qel K c)))), (1, .d (.one (.row 4 m (qel L d)))), (5, .own 23), (25, .d (.one (.v (.int .i64 ((n + m - 1 : Nat) : Int))))), (26, .d (.one (.v (.int .i64 ((i : Nat) : Int)))))], [(23, .row 44 4 (n + m - 1) (qpre 64 i (fun _ => 0) (fun j => .v ((([Value.slice none 0 0, Value.bool false, Value.slice none 0 0, Value.bool false] : List Value)[j]?).getD undef))))]⟩) (fun (i : Nat) => i ≤ n + m - 1) (fun (i : Nat) => n + m - 1 - i) 0 (Nat.zero_le _) (wk (sl := [(0, .d (.one (.row 4 n (qel K c)))), (1, .d (.one (.row 4 m (qel L d)))), (5, .own 23), (25, .d (.one (.v (.int .i64 ((n + m - 1 : Nat) : Int))))), (26, .d (.one (.v (.int .i64 ((0 : Nat) : Int)))))]) (hp := [(23, .row 44 4 (n + m - 1) (qpre 64 0 (fun _ => 0) (fun j => .v ((([Value.slice none 0 0, Value.bool false, Value.slice none 0 0, Value.bool false] : List Value)[j]?).getD undef))))]) rfl ⟨hs rfl, hs rfl, hs rfl, hs rfl, hs rfl, trivial⟩ ⟨ho' rfl (leo_pre0), trivial⟩ rfl) ?_
      rintro i hI
      have hi : i ≤ n + m - 1 := hI
      show AW Tryz.prog _ _ ⟨69, [(0, .d (.one (.row 4 n (qel K c)))), (1, .d (.one (.row 4 m (qel L d)))), (5, .own 23), (25, .d (.one (.v (.int .i64 ((n + m - 1 : Nat) : Int))))), (26, .d (.one (.v (.int .i64 ((i : Nat) : Int)))))], [(23, .row 44 4 (n + m - 1) (qpre 64 i (fun _ => 0) (fun j => .v ((([Value.slice none 0 0, Value.bool false, Value.slice none 0 0, Value.bool false] : List Value)[j]?).getD undef))))]⟩
      refine cSeq ?_
      refine cReg ?_
      refine mV hTT (.d (.one (.v (.bool (decide (((i : Nat) : Int) < ((n + m - 1 : Nat) : Int))))))) rfl ?_
      refine mNil ?_
      refine tN ?_
      refine cSeq ?_
      refine cCond rfl (fun hc1 => ?_) (fun hc1 => ?_)
      · skip
        refine cSkip ?_
        refine tN ?_
        refine cSeq ?_
        refine cBlock ?_
        refine cSeq ?_
        have hin : i < n + m - 1 := by have h0 := of_decide_eq_true hc1; omega
        refine cReg ?_
        refine mV hTT _ rfl ?_
        refine mV hTT _ rfl ?_
        refine mNil ?_
        refine tN ?_
        refine cReg ?_
        refine mV hTT _ rfl ?_
        refine mV hTT _ rfl ?_
        refine mC0 (aQZero) rfl rfl rfl ?_
        refine mV hTT (.eptr 23 4 i 0) (ixO (z := ((i : Nat) : Int)) (n := (n + m - 1)) rfl rfl rfl rfl rfl rfl rfl (by omega) (by omega)) ?_
        refine mS hTT 23 (.row 44 4 (n + m - 1) (fun p' q' => if p' = i then ((qn 64 0)[q']?).getD (.v undef) else (qpre 64 i (fun _ => 0) (fun j => .v ((([Value.slice none 0 0, Value.bool false, Value.slice none 0 0, Value.bool false] : List Value)[j]?).getD undef))) p' q')) rfl ?_
        refine mNil ?_
        refine bN ?_
        refine tN ?_
        refine cReg ?_
        refine mV hTT (.d (.one (.v (.int .i64 (IntKind.i64.wrap (((i : Nat) : Int) + 1)))))) rfl ?_
        refine mV hTT _ rfl ?_
        refine mNil ?_
        exact ⟨(i + 1), by omega, by omega, wk (sl := [(0, .d (.one (.row 4 n (qel K c)))), (1, .d (.one (.row 4 m (qel L d)))), (5, .own 23), (25, .d (.one (.v (.int .i64 ((n + m - 1 : Nat) : Int))))), (26, .d (.one (.v (.int .i64 (((i + 1) : Nat) : Int)))))]) (hp := [(23, .row 44 4 (n + m - 1) (qpre 64 (i + 1) (fun _ => 0) (fun j => .v ((([Value.slice none 0 0, Value.bool false, Value.slice none 0 0, Value.bool false] : List Value)[j]?).getD undef))))]) rfl ⟨hs rfl, hs rfl, hs rfl, hs rfl, hs' rfl (le_int (inc64 (by omega))), trivial⟩ ⟨ho' rfl (st_pre (Nat.le_refl _) rfl), trivial⟩ rfl⟩
      · skip
        refine cExit ?_
        refine tE ?_
        refine tE ?_
        refine bE ?_
        refine tN ?_
        refine cSeq ?_
        refine cSeq ?_
        have hie : n + m - 1 = i := by have h0 := of_decide_eq_false hc1; omega
        subst hie
        refine cReg ?_
        refine mV hTT _ rfl ?_
        refine mV hTT (.d (.one (.v (.int .i64 (n : Int))))) rfl ?_
        refine mV hTT _ rfl ?_
        refine mNil ?_
        refine tN ?_
        refine cBlock ?_
        refine cLoop (ι := Nat) (fun (i : Nat) => ⟨69, [(0, .d (.one (.row 4 n (qel K c)))), (1, .d (.one (.row 4 m (qel L d)))), (5, .own 23), (35, .d (.one (.v (.int .i64 (n : Int))))), (36, .d (.one (.v (.int .i64 ((i : Nat) : Int)))))], [(23, .row 44 4 (n + m - 1) (qelv (fun _ => R i) (cv c d i)))]⟩) (fun (i : Nat) => i ≤ n) (fun (i : Nat) => n - i) 0 (Nat.zero_le _) (wk (sl := [(0, .d (.one (.row 4 n (qel K c)))), (1, .d (.one (.row 4 m (qel L d)))), (5, .own 23), (35, .d (.one (.v (.int .i64 (n : Int))))), (36, .d (.one (.v (.int .i64 ((0 : Nat) : Int)))))]) (hp := [(23, .row 44 4 (n + m - 1) (qelv (fun _ => R 0) (cv c d 0)))]) rfl ⟨hs rfl, hs rfl, hs rfl, hs rfl, hs rfl, trivial⟩ ⟨ho' rfl (leo_pre (fun p _ => hR0) (fun _ _ => rfl)), trivial⟩ rfl) ?_
        rintro i hI
        have hi2 : i ≤ n := hI
        show AW Tryz.prog _ _ ⟨69, [(0, .d (.one (.row 4 n (qel K c)))), (1, .d (.one (.row 4 m (qel L d)))), (5, .own 23), (35, .d (.one (.v (.int .i64 (n : Int))))), (36, .d (.one (.v (.int .i64 ((i : Nat) : Int)))))], [(23, .row 44 4 (n + m - 1) (qelv (fun _ => R i) (cv c d i)))]⟩
        refine cSeq ?_
        refine cReg ?_
        refine mV hTT (.d (.one (.v (.bool (decide (((i : Nat) : Int) < (n : Int))))))) rfl ?_
        refine mNil ?_
        refine tN ?_
        refine cSeq ?_
        refine cCond rfl (fun hc2 => ?_) (fun hc2 => ?_)
        · skip
          refine cSkip ?_
          refine tN ?_
          refine cSeq ?_
          refine cBlock ?_
          refine cSeq ?_
          have hia : i < n := by have h0 := of_decide_eq_true hc2; omega
          have hR := hR1 i
          have hRm := hRM (i + 1) hia
          refine cReg ?_
          refine mV hTT _ rfl ?_
          refine mV hTT _ rfl ?_
          refine mNil ?_
          refine tN ?_
          refine cSeq ?_
          refine cReg ?_
          refine mV hTT _ rfl ?_
          refine mV hTT (.d (.one (.v (.int .i64 (m : Int))))) rfl ?_
          refine mV hTT _ rfl ?_
          refine mNil ?_
          refine tN ?_
          refine cBlock ?_
          refine cLoop (ι := Nat) (fun (k : Nat) => ⟨69, [(0, .d (.one (.row 4 n (qel K c)))), (1, .d (.one (.row 4 m (qel L d)))), (5, .own 23), (35, .d (.one (.v (.int .i64 (n : Int))))), (36, .d (.one (.v (.int .i64 ((i : Nat) : Int))))), (7, .d (.one (.v (.int .i64 ((i : Nat) : Int))))), (40, .d (.one (.v (.int .i64 (m : Int))))), (41, .d (.one (.v (.int .i64 ((k : Nat) : Int)))))], [(23, .row 44 4 (n + m - 1) (qelv (kf R i k) (cvkQ c d i k)))]⟩) (fun (k : Nat) => k ≤ m) (fun (k : Nat) => m - k) 0 (Nat.zero_le _) (wk (sl := [(0, .d (.one (.row 4 n (qel K c)))), (1, .d (.one (.row 4 m (qel L d)))), (5, .own 23), (35, .d (.one (.v (.int .i64 (n : Int))))), (36, .d (.one (.v (.int .i64 ((i : Nat) : Int))))), (7, .d (.one (.v (.int .i64 ((i : Nat) : Int))))), (40, .d (.one (.v (.int .i64 (m : Int))))), (41, .d (.one (.v (.int .i64 ((0 : Nat) : Int)))))]) (hp := [(23, .row 44 4 (n + m - 1) (qelv (kf R i 0) (cvkQ c d i 0)))]) rfl ⟨hs rfl, hs rfl, hs rfl, hs rfl, hs rfl, hs rfl, hs rfl, hs rfl, trivial⟩ ⟨ho' rfl (leo_qelv (fun p _ => kf_start) (fun j _ => cvkQ_zero.symm)), trivial⟩ rfl) ?_
          rintro k hI
          have hk : k ≤ m := hI
          show AW Tryz.prog _ _ ⟨69, [(0, .d (.one (.row 4 n (qel K c)))), (1, .d (.one (.row 4 m (qel L d)))), (5, .own 23), (35, .d (.one (.v (.int .i64 (n : Int))))), (36, .d (.one (.v (.int .i64 ((i : Nat) : Int))))), (7, .d (.one (.v (.int .i64 ((i : Nat) : Int))))), (40, .d (.one (.v (.int .i64 (m : Int))))), (41, .d (.one (.v (.int .i64 ((k : Nat) : Int)))))], [(23, .row 44 4 (n + m - 1) (qelv (kf R i k) (cvkQ c d i k)))]⟩
          refine cSeq ?_
          refine cReg ?_
          refine mV hTT (.d (.one (.v (.bool (decide (((k : Nat) : Int) < (m : Int))))))) rfl ?_
          refine mNil ?_
          refine tN ?_
          refine cSeq ?_
          refine cCond rfl (fun hc3 => ?_) (fun hc3 => ?_)
          · skip
            refine cSkip ?_
            refine tN ?_
            refine cSeq ?_
            refine cBlock ?_
            refine cSeq ?_
            have hkb : k < m := by have h0 := of_decide_eq_true hc3; omega
            have hkf : kf R i k (i + k) = R i := kf_at
            refine cReg ?_
            refine mV hTT _ rfl ?_
            refine mV hTT _ rfl ?_
            refine mNil ?_
            refine tN ?_
            refine cDrawK hTT 21 (by kernel_rfl) (by kernel_rfl) (by kernel_rfl) ?_
            refine .cons (OpS.V _ rfl) ?_
            refine .cons (OpS.V _ rfl) ?_
            refine .cons (OpS.V _ rfl) ?_
            refine .cons (OpS.V (.d (.one (.v (.int .i64 ((i + k : Nat) : Int))))) (evi ((wr64 (by omega) (by omega)).trans (by omega)))) ?_
            refine .cons (OpS.V _ rfl) ?_
            refine .cons (OpS.V _ rfl) ?_
            refine .cons (OpS.V _ rfl) ?_
            refine .cons (OpS.V (.d (.one (.v (.int .i64 ((i + k : Nat) : Int))))) (evi ((wr64 (by omega) (by omega)).trans (by omega)))) ?_
            refine .cons (OpS.V (.eptr 23 4 (i + k) 0) (ixO (z := ((i + k : Nat) : Int)) (n := (n + m - 1)) rfl rfl rfl rfl rfl rfl rfl (by omega) (by omega))) ?_
            refine .cons (OpS.V (.d (.agg (qn (kf R i k (i + k)) (cvkQ c d i k (i + k))))) rfl) ?_
            refine .cons (OpS.V _ rfl) ?_
            refine .cons (OpS.V _ rfl) ?_
            refine .cons (OpS.V (.d (.one (.at 4 ((qel K c) i)))) (ixR (el := (qel K c)) (z := ((i : Nat) : Int)) (n := n) rfl rfl rfl rfl rfl rfl (by omega) (by omega))) ?_
            refine .cons (OpS.V (.d (.agg (qn K (c i)))) rfl) ?_
            refine .cons (OpS.V _ rfl) ?_
            refine .cons (OpS.V _ rfl) ?_
            refine .cons (OpS.V (.d (.one (.at 4 ((qel L d) k)))) (ixR (el := (qel L d)) (z := ((k : Nat) : Int)) (n := m) rfl rfl rfl rfl rfl rfl (by omega) (by omega))) ?_
            refine .cons (OpS.V (.d (.agg (qn L (d k)))) rfl) ?_
            refine .cons (OpS.C0 (aRMulR (isq K (c i)) (isq L (d k)) (M := (max (K + L + 1) 64)) (by omega) (by omega)) rfl rfl rfl) ?_
            refine .cons (OpS.C0 (aRAddR (isq (kf R i k (i + k)) (cvkQ c d i k (i + k))) (isq (max (K + L + 1) 64) ((c i) * (d k))) (M := (max ((kf R i k (i + k)) + (max (K + L + 1) 64) + 1) 64)) (by omega) (by omega)) rfl rfl rfl) ?_
            refine .cons (OpS.V (.eptr 23 4 (i + k) 0) (ixO (z := ((i + k : Nat) : Int)) (n := (n + m - 1)) rfl rfl rfl rfl rfl rfl rfl (by omega) (by omega))) ?_
            refine .nil ?_
            refine mS hTT 23 (.row 44 4 (n + m - 1) (fun p' q' => if p' = (i + k) then ((qn (max ((kf R i k (i + k)) + (max (K + L + 1) 64) + 1) 64) ((cvkQ c d i k (i + k)) + ((c i) * (d k))))[q']?).getD (.v undef) else (qelv (kf R i k) (cvkQ c d i k)) p' q')) rfl ?_
            refine mNil ?_
            refine bN ?_
            refine tN ?_
            refine cReg ?_
            refine mV hTT (.d (.one (.v (.int .i64 (IntKind.i64.wrap (((k : Nat) : Int) + 1)))))) rfl ?_
            refine mV hTT _ rfl ?_
            refine mNil ?_
            exact ⟨(k + 1), by omega, by omega, wk (sl := [(0, .d (.one (.row 4 n (qel K c)))), (1, .d (.one (.row 4 m (qel L d)))), (5, .own 23), (35, .d (.one (.v (.int .i64 (n : Int))))), (36, .d (.one (.v (.int .i64 ((i : Nat) : Int))))), (7, .d (.one (.v (.int .i64 ((i : Nat) : Int))))), (40, .d (.one (.v (.int .i64 (m : Int))))), (41, .d (.one (.v (.int .i64 (((k + 1) : Nat) : Int)))))]) (hp := [(23, .row 44 4 (n + m - 1) (qelv (kf R i (k + 1)) (cvkQ c d i (k + 1))))]) rfl ⟨hs rfl, hs rfl, hs rfl, hs rfl, hs rfl, hs rfl, hs rfl, hs' rfl (le_int (inc64 (by omega))), trivial⟩ ⟨ho' rfl (st_q (fun p _ _ => kf_le (by omega)) (by rw [kf_new]; omega) cvkQ_step (fun p _ hp => cvkQ_other hp)), trivial⟩ rfl⟩
          · skip
            refine cExit ?_
            refine tE ?_
            refine tE ?_
            refine bE ?_
            refine bN ?_
            refine tN ?_
            have hke : m = k := by have h0 := of_decide_eq_false hc3; omega
            subst hke
            refine cReg ?_
            refine mV hTT (.d (.one (.v (.int .i64 (IntKind.i64.wrap (((i : Nat) : Int) + 1)))))) rfl ?_
            refine mV hTT _ rfl ?_
            refine mNil ?_
            exact ⟨(i + 1), by omega, by omega, wk (sl := [(0, .d (.one (.row 4 n (qel K c)))), (1, .d (.one (.row 4 m (qel L d)))), (5, .own 23), (35, .d (.one (.v (.int .i64 (n : Int))))), (36, .d (.one (.v (.int .i64 (((i + 1) : Nat) : Int)))))]) (hp := [(23, .row 44 4 (n + m - 1) (qelv (fun _ => R (i + 1)) (cv c d (i + 1))))]) rfl ⟨hs rfl, hs rfl, hs rfl, hs rfl, hs' rfl (le_int (inc64 (by omega))), trivial⟩ ⟨ho' rfl (leo_qelv (fun p _ => kf_end (by omega)) (fun j _ => cvkQ_end zb)), trivial⟩ rfl⟩
        · skip
          refine cExit ?_
          refine tE ?_
          refine tE ?_
          refine bE ?_
          refine tN ?_
          refine cSeq ?_
          have hie2 : n = i := by have h0 := of_decide_eq_false hc2; omega
          subst hie2
          refine AW.wk (wkRow 23 rfl) ?_
          refine cView 5 (.d (.one (.row 4 (n + m - 1) (qel M (conv c d))))) rfl (le_one (row_qelv (fun p _ => hRM n (Nat.le_refl _)) (fun j _ => cv_convQ za))) ?_
          refine cReg ?_
          refine mV hTT _ rfl ?_
          refine mC0 (aQCut (K := M) (n := (n + m - 1)) (c := (conv c d)) (by omega)) rfl rfl rfl ?_
          refine mV hTT _ rfl ?_
          refine mNil ?_
          refine tN ?_
          refine cRet ?_
          exact rQ rfl (le_qrow (Nat.le_refl _) (dg_eq (fun j hj => conv_beyondQ za zb (by omega)) (fun j hj => conv_beyondQ za zb (by omega))) (fun _ _ => rfl))

end Go.Proofs.YtcnfblffeghboaaGreat

/-
  POLYNOMIALS, by the machine (5): sums and products of many, Move; the law's Cut, is, wakes.
-/
set_option linter.unusedVariables false
set_option linter.unusedSimpArgs false
namespace Go.Proofs.YtcnfblffeghboaaGreat
open Go.RowKit

set_option maxRecDepth 100000 in
set_option maxHeartbeats 4000000 in
theorem aPMove {a : Lf} {b e : List Lf} {K L1 L2 M n D T : Nat} {c : Nat → Int} {x y : Int} (ha : IsP a K n c) (hb : IsZ b L1 x) (hd : IsZ e L2 y) (hy : ¬ y = 0) (hn : n ≤ D) (hDD : D ≤ 500 := by decide) (hT : K + 2 * (L1 + L2) + 1000 * (D + 3) ≤ T := by decide) (hM : (D + 1) * T ≤ M := by decide) (hMM : M ≤ 100000000 := by decide) : ACall Tryz.prog 32 [.one a, .agg b, .agg e] (.tup [.one (prow M (dg (mvZ c x y (dg c n) (dg c n)) (dg c n + 1)) (mvZ c x y (dg c n) (dg c n))), .one (.v (.int .i64 0))]) := by
  obtain ⟨⟨fa, ha, ea⟩, za⟩ := ha
  obtain ⟨s1, xs1, hb, ex⟩ := hb
  obtain ⟨s2, xs2, hd, ey⟩ := hd
  refine ACall.le (dl (DV.l ha) (dl (DV.z hb) (dl (DV.z hd) dl0))) AV.le.rfl ?_
  obtain ⟨R, hR0, hR1, hRM⟩ : ∃ R : Nat → Nat, 2 ≤ R 0 ∧ (∀ i, R i + T ≤ R (i + 1)) ∧ ∀ i, i ≤ D → R i ≤ M := ⟨fun i => (i + 1) * T, by show 2 ≤ (0 + 1) * T; omega, fun i => by show (i + 1) * T + T ≤ (i + 1 + 1) * T; rw [Nat.succ_mul (i + 1)]; exact Nat.le_refl _, fun i hi => Nat.le_trans (Nat.mul_le_mul_right _ (by omega)) hM⟩
  have hT1 := hRM 0 (Nat.zero_le _)
  have hTM : T ≤ M := Nat.le_trans (Nat.le_mul_of_pos_left T (by omega)) hM
  refine acallN hTT 45 [.tmp 6, .tmp 7] Tryz.func32 rfl rfl rfl rfl rfl ?_
  refine cSeq ?_
  refine cReg ?_
  refine mN hTT (.box 26 ([.v (.bool s1), lr L1 xs1])) rfl rfl rfl ?_
  refine mN hTT (.box 26 ([.v (.bool s2), lr L2 xs2])) rfl rfl rfl ?_
  refine mV hTT _ rfl ?_
  refine mV hTT _ rfl ?_
  refine mNil ?_
  refine tN ?_
  refine cSeq ?_
  refine cSeq ?_
  refine cReg ?_
  refine mV hTT (.d (.agg ([.v (.bool s2), lr L2 xs2]))) rfl ?_
  refine mC0 (aNorm ⟨s2, xs2, fun _ _ _ h => h, ey⟩ (by omega)) rfl rfl rfl ?_
  refine mC0 (aZero (isn L2 y)) rfl rfl rfl ?_
  refine mNil ?_
  refine tN ?_
  refine cView 14 (.d (.one (.v (.bool false)))) rfl (le_bool (decide_eq_false hy)) ?_
  refine cF rfl ?_
  refine cSkip ?_
  refine tN ?_
  refine cSeq ?_
  refine cReg ?_
  refine mV hTT _ rfl ?_
  refine mC0 (aPNorm (⟨⟨fa, fun _ _ _ h => h, ea⟩, za⟩ : IsP (arow K n fa) K n c) (by omega) (by omega)) rfl rfl rfl ?_
  refine mV hTT _ rfl ?_
  refine mNil ?_
  refine tN ?_
  refine cSeq ?_
  refine cReg ?_
  refine mV hTT _ rfl ?_
  refine mNil ?_
  refine tN ?_
  refine cSeq ?_
  refine cDrawK hTT 8 (by kernel_rfl) (by kernel_rfl) (by kernel_rfl) ?_
  refine .cons (OpS.V (.d (.agg ([.v (.bool s1), lr L1 xs1]))) rfl) ?_
  refine .cons (OpS.C0 (aNorm ⟨s1, xs1, fun _ _ _ h => h, ex⟩ (by omega)) rfl rfl rfl) ?_
  refine .cons (OpS.V (.d (.agg ([.v (.bool s2), lr L2 xs2]))) rfl) ?_
  refine .cons (OpS.C0 (aNorm ⟨s2, xs2, fun _ _ _ h => h, ey⟩ (by omega)) rfl rfl rfl) ?_
  refine .cons (OpS.B _ rfl) ?_
  refine .cons (OpS.C0 (aOf (n := 1) (by decide) (by decide)) rfl rfl rfl) ?_
  refine .cons (OpS.N (.box 26 ([.v (.bool false), .v (.slice none 0 0)])) rfl 10 rfl rfl) ?_
  refine .cons (OpS.V _ rfl) ?_
  refine .nil ?_
  refine mS hTT 10 (.box 26 (zn 2 1)) rfl ?_
  refine mNil ?_
  refine tN ?_
  refine cSeq ?_
  refine cSeq ?_
  have hla := dg_le c n
  refine cReg ?_
  refine mV hTT _ rfl ?_
  refine mV hTT (.d (.one (.v (.int .i64 ((dg c n : Nat) : Int))))) rfl ?_
  refine mV hTT (.d (.one (.v (.int .i64 ((dg c n : Int) - 1))))) (evi (wr64 (by omega) (by omega))) ?_
  refine mV hTT _ rfl ?_
  refine mNil ?_
  refine tN ?_
  refine cBlock ?_
  refine cLoop (ι := Nat) (fun (s : Nat) => ⟨45, [(0, .d (.one (.row 2 (dg c n) (zel K c)))), (5, .ptr 5 0), (8, .d (.one (.row 2 (dg (mvZ c x y (dg c n) s) (s + 1)) (zel (R s) (mvZ c x y (dg c n) s))))), (9, .d (.one (.row 2 2 (fun i' j' => ((zn L1 x ++ zn L2 y)[i' * 2 + j']?).getD (.v undef))))), (10, .ptr 10 0), (11, .d (.one (.v (.int .i64 ((dg c n : Int) - 1 - (s : Int))))))], [(5, .box 26 ([.v (.bool s2), lr L2 xs2])), (10, .box 26 (zn (R s) (y ^ s)))]⟩) (fun (s : Nat) => s ≤ dg c n) (fun (s : Nat) => dg c n - s) 0 (Nat.zero_le _) (wk (sl := [(0, .d (.one (.row 2 (dg c n) (zel K c)))), (5, .ptr 5 0), (8, .d (.one (.row 2 (dg (mvZ c x y (dg c n) 0) (0 + 1)) (zel (R 0) (mvZ c x y (dg c n) 0))))), (9, .d (.one (.row 2 2 (fun i' j' => ((zn L1 x ++ zn L2 y)[i' * 2 + j']?).getD (.v undef))))), (10, .ptr 10 0), (11, .d (.one (.v (.int .i64 ((dg c n : Int) - 1 - ((0 : Nat) : Int))))))]) (hp := [(5, .box 26 ([.v (.bool s2), lr L2 xs2])), (10, .box 26 (zn (R 0) (y ^ 0)))]) rfl ⟨hs rfl, hs rfl, hs' rfl (nil_prow' (dg_zero (fun _ => rfl) _)), hs rfl, hs rfl, hs' rfl (le_int (by omega)), trivial⟩ ⟨ho rfl, ho' rfl (leo_zn (by omega) (Int.pow_zero y).symm), trivial⟩ rfl) ?_
  rintro s hI
  have hi : s ≤ dg c n := hI
  show AW Tryz.prog _ _ ⟨45, [(0, .d (.one (.row 2 (dg c n) (zel K c)))), (5, .ptr 5 0), (8, .d (.one (.row 2 (dg (mvZ c x y (dg c n) s) (s + 1)) (zel (R s) (mvZ c x y (dg c n) s))))), (9, .d (.one (.row 2 2 (fun i' j' => ((zn L1 x ++ zn L2 y)[i' * 2 + j']?).getD (.v undef))))), (10, .ptr 10 0), (11, .d (.one (.v (.int .i64 ((dg c n : Int) - 1 - (s : Int))))))], [(5, .box 26 ([.v (.bool s2), lr L2 xs2])), (10, .box 26 (zn (R s) (y ^ s)))]⟩
  refine cSeq ?_
  refine cSeq ?_
  refine cReg ?_
  refine mV hTT _ rfl ?_
  refine mV hTT (.d (.one (.v (.bool (decide (((dg c n : Int) - 1 - (s : Int)) ≥ 0)))))) rfl ?_
  refine mNil ?_
  refine tN ?_
  refine cCond rfl (fun hc1 => ?_) (fun hc1 => ?_)
  · skip
    refine cSkip ?_
    refine tN ?_
    refine cSeq ?_
    refine cBlock ?_
    refine cSeq ?_
    have hsd : s < dg c n := by have h0 := of_decide_eq_true hc1; omega
    have hR := hR1 s
    have hRm := hRM (s + 1) (by omega)
    have hd1 := dg_le (mvZ c x y (dg c n) s) (s + 1)
    have hd2 := dg_le (conv (mvZ c x y (dg c n) s) (lin x y)) (dg (mvZ c x y (dg c n) s) (s + 1) + 2)
    refine cView 11 (.d (.one (.v (.int .i64 ((dg c n - 1 - s : Nat) : Int))))) rfl (le_int (by omega)) ?_
    refine cDrawK hTT 12 (by kernel_rfl) (by kernel_rfl) (by kernel_rfl) ?_
    refine .cons (OpS.V _ rfl) ?_
    refine .cons (OpS.V _ rfl) ?_
    refine .cons (OpS.C0 (aPMul (isp (K := (R s)) (c := (mvZ c x y (dg c n) s)) (dg_z fun j hj => mvZ_z s j (by omega))) (show IsP _ (max L1 L2) 2 (lin x y) from isp2 (M := L1) (N := L2) (z := x) (y := y) (by omega) (by omega)) (M := (R s + (max L1 L2) + 1 + (s + 1) * 1000)) (D := s + 1) (by omega) (by omega) (by omega) (by omega) (by omega)) rfl rfl rfl) ?_
    refine .cons (OpS.V _ rfl) ?_
    refine .cons (OpS.V _ rfl) ?_
    refine .cons (OpS.V (.d (.one (.at 2 ((zel K c) (dg c n - 1 - s))))) (ixR (el := (zel K c)) (z := ((dg c n - 1 - s : Nat) : Int)) (n := (dg c n)) rfl rfl rfl rfl rfl rfl (by omega) (by omega))) ?_
    refine .cons (OpS.V (.d (.agg (zn K (c (dg c n - 1 - s))))) rfl) ?_
    refine .cons (OpS.V (.d (.agg (zn (R s) (y ^ s)))) rfl) ?_
    refine .cons (OpS.C0 (aMul (isz K (c (dg c n - 1 - s))) (isz (R s) (y ^ s)) (M := (K + (R s))) (by omega) (by omega) (by omega)) rfl rfl rfl) ?_
    refine .cons (OpS.B _ rfl) ?_
    refine .cons (OpS.C0 (aPAdd (isp (K := (R s + (max L1 L2) + 1 + (s + 1) * 1000)) (c := (conv (mvZ c x y (dg c n) s) (lin x y))) (dg_z (conv_z0 (dg_z fun j hj => mvZ_z s j (by omega)) lin_z))) (show IsP _ (K + R s) 1 (onez (c (dg c n - 1 - s) * y ^ s)) from isp1 (z := (c (dg c n - 1 - s) * y ^ s)) (Nat.le_refl _)) (M := (max (R s + (max L1 L2) + 1 + (s + 1) * 1000) (K + R s) + 1)) (by omega) (by omega) (by omega)) rfl rfl rfl) ?_
    refine .cons (OpS.V _ rfl) ?_
    refine .nil ?_
    refine mNil ?_
    refine tN ?_
    refine cReg ?_
    refine mV hTT (.d (.agg (zn (R s) (y ^ s)))) rfl ?_
    refine mV hTT (.d (.agg ([.v (.bool s2), lr L2 xs2]))) rfl ?_
    refine mC0 (aMul (isz (R s) (y ^ s)) ⟨s2, xs2, fun _ _ _ h => h, ey⟩ (M := ((R s) + L2)) (by omega) (by omega) (by omega)) rfl rfl rfl ?_
    refine mS hTT 10 (.box 26 (zn ((R s) + L2) ((y ^ s) * y))) rfl ?_
    refine mNil ?_
    refine bN ?_
    refine tN ?_
    refine cReg ?_
    refine mV hTT _ rfl ?_
    refine mV hTT (.d (.one (.v (.int .i64 (IntKind.i64.wrap (((dg c n - 1 - s : Nat) : Int) - 1)))))) rfl ?_
    refine mV hTT _ rfl ?_
    refine mNil ?_
    exact ⟨(s + 1), by omega, by omega, wk (sl := [(0, .d (.one (.row 2 (dg c n) (zel K c)))), (5, .ptr 5 0), (8, .d (.one (.row 2 (dg (mvZ c x y (dg c n) (s + 1)) ((s + 1) + 1)) (zel (R (s + 1)) (mvZ c x y (dg c n) (s + 1)))))), (9, .d (.one (.row 2 2 (fun i' j' => ((zn L1 x ++ zn L2 y)[i' * 2 + j']?).getD (.v undef))))), (10, .ptr 10 0), (11, .d (.one (.v (.int .i64 ((dg c n : Int) - 1 - ((s + 1) : Int))))))]) (hp := [(5, .box 26 ([.v (.bool s2), lr L2 xs2])), (10, .box 26 (zn (R (s + 1)) (y ^ (s + 1))))]) rfl ⟨hs rfl, hs rfl, hs' rfl (le_prow (by omega) (dg_eq (fadd_z (dg_z (conv_z0 (dg_z fun j hj => mvZ_z s j (by omega)) lin_z)) onez_z) (fun j hj => mvZ_z (s + 1) j (by omega))) (fun _ _ => rfl)), hs rfl, hs rfl, hs' rfl (le_int ((wr64 (by omega) (by omega)).trans (by omega))), trivial⟩ ⟨ho rfl, ho' rfl (leo_zn (by omega) (Int.pow_succ y s).symm), trivial⟩ rfl⟩
  · skip
    refine cExit ?_
    refine tE ?_
    refine tE ?_
    refine bE ?_
    refine tN ?_
    refine cSeq ?_
    have hie : dg c n = s := by have h0 := of_decide_eq_false hc1; omega
    subst hie
    refine cReg ?_
    refine mV hTT _ rfl ?_
    refine mV hTT _ rfl ?_
    refine mV hTT _ rfl ?_
    refine mNil ?_
    refine tN ?_
    refine cRet ?_
    exact rQ rfl (le_tup (dl (dle (le_prow (hRM _ (by omega)) rfl (fun _ _ => rfl))) (dl DV.same dl0)))

set_option maxRecDepth 100000 in
set_option maxHeartbeats 4000000 in
theorem aPMove0 {a : Lf} {b e : List Lf} {K L1 L2 n : Nat} {c : Nat → Int} {x y : Int} (ha : IsP a K n c) (hb : IsZ b L1 x) (hd : IsZ e L2 y) (hy : y = 0) (hL : L2 ≤ 100000000 := by decide) : ACall Tryz.prog 32 [.one a, .agg b, .agg e] (.tup [.one (.v (.slice none 0 0)), .one (.v (.int .i64 2))]) := by
  obtain ⟨⟨fa, ha, ea⟩, za⟩ := ha
  obtain ⟨s1, xs1, hb, ex⟩ := hb
  obtain ⟨s2, xs2, hd, ey⟩ := hd
  refine ACall.le (dl (DV.l ha) (dl (DV.z hb) (dl (DV.z hd) dl0))) AV.le.rfl ?_
  refine acallN hTT 45 [.tmp 6, .tmp 7] Tryz.func32 rfl rfl rfl rfl rfl ?_
  refine cSeq ?_
  refine cReg ?_
  refine mN hTT (.box 26 ([.v (.bool s1), lr L1 xs1])) rfl rfl rfl ?_
  refine mN hTT (.box 26 ([.v (.bool s2), lr L2 xs2])) rfl rfl rfl ?_
  refine mV hTT _ rfl ?_
  refine mV hTT _ rfl ?_
  refine mNil ?_
  refine tN ?_
  refine cSeq ?_
  refine cSeq ?_
  refine cReg ?_
  refine mV hTT (.d (.agg ([.v (.bool s2), lr L2 xs2]))) rfl ?_
  refine mC0 (aNorm ⟨s2, xs2, fun _ _ _ h => h, ey⟩ (by omega)) rfl rfl rfl ?_
  refine mC0 (aZero (isn L2 y)) rfl rfl rfl ?_
  refine mNil ?_
  refine tN ?_
  refine cView 14 (.d (.one (.v (.bool true)))) rfl (le_bool (decide_eq_true hy)) ?_
  refine cT rfl ?_
  refine cSeq ?_
  refine cReg ?_
  refine mV hTT _ rfl ?_
  refine mV hTT _ rfl ?_
  refine mNil ?_
  refine tN ?_
  refine cRet ?_
  refine tR ?_
  exact rQ rfl (AV.le.rfl)

end Go.Proofs.YtcnfblffeghboaaGreat

/-
  PLAIN LAW of chapter 5: Horner's rule over rationals and over whole numbers. No condition; nothing of the program.
-/
set_option linter.unusedVariables false
set_option linter.unusedSimpArgs false
namespace Go.Proofs.YtcnfblffeghboaaGreat
open Go.RowKit

def linQ (q r : Rat) : Nat → Rat := fun i => if i = 0 then q else if i = 1 then r else 0
def oneQ (q : Rat) : Nat → Rat := fun i => if i = 0 then q else 0
theorem linQ_z {q r : Rat} : ∀ i, 2 ≤ i → linQ q r i = 0 := fun i hi => by unfold linQ; rw [if_neg (by omega), if_neg (by omega)]
theorem oneQ_z {q : Rat} : ∀ i, 1 ≤ i → oneQ q i = 0 := fun i hi => if_neg (by omega)
def hvQ (a : Nat → Rat) (q : Rat) (top : Nat) : Nat → Nat → Rat
  | 0 => fun _ => 0
  | s + 1 => faddQ (conv (hvQ a q top s) (linQ q (((1 : Int) : Int) : Rat))) (oneQ (a (top - 1 - s)))
theorem hvQ_z {a : Nat → Rat} {q : Rat} {top : Nat} : ∀ (s j : Nat), s ≤ j → hvQ a q top s j = 0
  | 0, _, _ => rfl
  | s + 1, j, hj => by
    show conv (hvQ a q top s) (linQ q _) j + oneQ _ j = 0
    rw [conv_beyondQ (n := s) (m := 2) (hvQ_z s) linQ_z (by omega), oneQ_z j (by omega)]; exact Rat.add_zero 0
def scQ (w : Nat → Rat) (q : Rat) : Nat → Nat → Rat
  | 0 => w
  | j + 1 => fsclQ (scQ w q j) q
theorem scQ_z {w : Nat → Rat} {q : Rat} {n : Nat} (h : ∀ i, n ≤ i → w i = 0) : ∀ j i, n ≤ i → scQ w q j i = 0
  | 0 => h
  | j + 1 => fsclQ_z (scQ_z h j)
theorem scQ_pow {w : Nat → Rat} {q : Rat} {i : Nat} : ∀ j, scQ w q j i = w i * q ^ j
  | 0 => by show w i = _; rw [Rat.pow_zero, Rat.mul_one]
  | j + 1 => by show scQ w q j i * q = _; rw [scQ_pow j, Rat.pow_succ, Rat.mul_assoc]

theorem cv_low {a b : Nat → Int} {j : Nat} (hb : ∀ i, 2 ≤ i → b i = 0) : ∀ m, m + 1 ≤ j → cv a b m j = 0 := fun m hm => conv_z fun i hi hij => by rw [hb (j - i) (by omega)]; simp
theorem cv_lowQ {a b : Nat → Rat} {j : Nat} (hb : ∀ i, 2 ≤ i → b i = 0) : ∀ m, m + 1 ≤ j → cv a b m j = 0 := fun m hm => conv_zQ fun i hi hij => by rw [hb (j - i) (by omega)]; grind
theorem conv_lin {a : Nat → Int} {x y : Int} : ∀ j, conv a (lin x y) j = a j * x + (if j = 0 then 0 else a (j - 1) * y)
  | 0 => by
    show cv a (lin x y) 0 0 + (if 0 ≤ 0 then a 0 * lin x y (0 - 0) else 0) = _
    rw [if_pos (Nat.le_refl _), if_pos rfl]
    show 0 + a 0 * x = a 0 * x + 0
    omega
  | j + 1 => by
    show (cv a (lin x y) j (j + 1) + (if j ≤ j + 1 then a j * lin x y (j + 1 - j) else 0)) + (if j + 1 ≤ j + 1 then a (j + 1) * lin x y (j + 1 - (j + 1)) else 0) = _
    rw [cv_low lin_z j (Nat.le_refl _), if_pos (by omega), if_pos (Nat.le_refl _), if_neg (by omega), Nat.sub_self, show j + 1 - j = 1 by omega, Nat.add_sub_cancel]
    show (0 + a j * y) + a (j + 1) * x = a (j + 1) * x + a j * y
    omega
theorem conv_linQ {a : Nat → Rat} {x y : Rat} : ∀ j, conv a (linQ x y) j = a j * x + (if j = 0 then 0 else a (j - 1) * y)
  | 0 => by
    show cv a (linQ x y) 0 0 + (if 0 ≤ 0 then a 0 * linQ x y (0 - 0) else 0) = _
    rw [if_pos (Nat.le_refl _), if_pos rfl]
    show 0 + a 0 * x = a 0 * x + 0
    grind
  | j + 1 => by
    show (cv a (linQ x y) j (j + 1) + (if j ≤ j + 1 then a j * linQ x y (j + 1 - j) else 0)) + (if j + 1 ≤ j + 1 then a (j + 1) * linQ x y (j + 1 - (j + 1)) else 0) = _
    rw [cv_lowQ linQ_z j (Nat.le_refl _), if_pos (by omega), if_pos (Nat.le_refl _), if_neg (by omega), Nat.sub_self, show j + 1 - j = 1 by omega, Nat.add_sub_cancel]
    show (0 + a j * y) + a (j + 1) * x = a (j + 1) * x + a j * y
    grind
theorem mkR_div {x y : Int} (hy : ¬ y = 0) : mkR x y * (y : Rat) = (x : Rat) := by
  rw [← mkR_int y, ← mkR_int x, mkR_ne hy, mkR_ne (by decide), mkR_ne (by decide), Rat.divInt_mul_divInt, Int.mul_one, Int.mul_comm x y]
  have h := Rat.divInt_mul_left (n := x) (d := 1) hy
  rwa [Int.mul_one] at h
theorem cast_pow (y : Int) : ∀ s : Nat, ((y ^ s : Int) : Rat) = (y : Rat) ^ s
  | 0 => rfl
  | s + 1 => by rw [Int.pow_succ, Rat.intCast_mul, cast_pow y s, Rat.pow_succ]
/-- Step by step: over whole numbers as over rationals, but for a power of the denominator. -/
theorem mv_hv {a : Nat → Int} {x y : Int} {top : Nat} (hy : ¬ y = 0) : ∀ s i, ((mvZ a x y top s i : Int) : Rat) * (y : Rat) = (y : Rat) ^ s * hvQ (rc a) (mkR x y) top s i
  | 0, i => by show ((0 : Int) : Rat) * _ = _ * (0 : Rat); rw [Rat.mul_zero]; exact Rat.zero_mul _
  | s + 1, i => by
    have h0 := mv_hv (a := a) (x := x) (y := y) (top := top) hy s i
    have h1 := mv_hv (a := a) (x := x) (y := y) (top := top) hy s (i - 1)
    have hq := mkR_div (x := x) hy
    show ((conv (mvZ a x y top s) (lin x y) i + onez (a (top - 1 - s) * y ^ s) i : Int) : Rat) * (y : Rat) = (y : Rat) ^ (s + 1) * (conv (hvQ (rc a) (mkR x y) top s) (linQ (mkR x y) (((1 : Int) : Int) : Rat)) i + oneQ (rc a (top - 1 - s)) i)
    rw [conv_lin, conv_linQ, Rat.intCast_add, Rat.intCast_add, Rat.intCast_mul, Rat.pow_succ]
    have h1c : (((1 : Int) : Int) : Rat) = 1 := rfl
    rw [h1c]
    have hrc : rc a (top - 1 - s) = ((a (top - 1 - s) : Int) : Rat) := rfl
    rw [hrc]
    unfold onez oneQ
    by_cases hi : i = 0
    · subst hi
      rw [if_pos rfl, if_pos rfl, if_pos rfl, if_pos rfl, Rat.intCast_mul, cast_pow]
      have h00 : ((0 : Int) : Rat) = 0 := rfl
      rw [h00]
      grind
    · rw [if_neg hi, if_neg hi, if_neg hi, if_neg hi, Rat.intCast_mul]
      have h00 : ((0 : Int) : Rat) = 0 := rfl
      rw [h00]
      grind
theorem pow_ne {q : Rat} (h : q ≠ 0) : ∀ s : Nat, q ^ s ≠ 0
  | 0 => by rw [Rat.pow_zero]; decide
  | s + 1 => by rw [Rat.pow_succ]; intro e; rcases Rat.mul_eq_zero.1 e with e | e; exact pow_ne h s e; exact h e
theorem mv_end {a : Nat → Int} {x y : Int} {n : Nat} (hy : ¬ y = 0) (i : Nat) : scQ (hvQ (rc a) (mkR x y) n n) (mkR y 1) (n - 1) i = rc (mvZ a x y n n) i := by
  rw [scQ_pow, mkR_int]
  show _ = ((mvZ a x y n n i : Int) : Rat)
  have h := mv_hv (a := a) (x := x) (y := y) (top := n) hy n i
  have hy' : (y : Rat) ≠ 0 := fun e => hy (Rat.intCast_eq_zero_iff.1 e)
  cases n with
  | zero => show (0 : Rat) * _ = ((0 : Int) : Rat); exact Rat.zero_mul _
  | succ s =>
    rw [Nat.add_sub_cancel]
    rw [Rat.pow_succ] at h
    grind
theorem dg_fun {α : Type} [DecidableEq α] [OfNat α 0] {c d : Nat → α} (h : ∀ i, c i = d i) (n : Nat) : dg c n = dg d n := by rw [funext h]
/-- The bounds in PolyMoves. -/
def KW : Nat → Nat
  | 0 => 64
  | s + 1 => (s + 2) * (KW s + 64 + 66) + 70
theorem KW_le : ∀ s, s ≤ 6 → KW s ≤ 5000000 := by decide
end Go.Proofs.YtcnfblffeghboaaGreat

/-
  RATIONALS of the program, in the abstract machine's words. No condition; nothing of the program.
-/
set_option linter.unusedVariables false
set_option linter.unusedSimpArgs false
namespace Go.Proofs.YtcnfblffeghboaaGreat
open Go.RowKit

theorem ist_tn (K : Nat) (q : Rat) : IsT (tn K q) K q.num q.den := ⟨decide (q.num < 0), limbs q.num.natAbs, decide ((q.den : Int) < 0), limbs (Int.natAbs (q.den : Int)), fun _ _ _ h => h, by rw [val_limbs]; exact zv_natAbs _, by rw [val_limbs]; exact zv_natAbs _⟩
theorem istn (K : Nat) (q : Rat) : IsTN (tn K q) K q := fun _ _ _ h => h
theorem tn_mono {K L : Nat} {q : Rat} (h : K ≤ L) : ∀ B w cs, LsR B w (tn K q) cs → LsR B w (tn L q) cs
  | B, w, [a, b, c, d], ⟨h1, h2, h3, h4, h5⟩ => ⟨h1, lr_mono h _ _ _ h2, h3, lr_mono h _ _ _ h4, h5⟩
theorem le_tn {K L : Nat} {z y : Rat} (h : K ≤ L) (e : z = y) : AV.le (.d (.agg (tn K z))) (.d (.agg (tn L y))) := by subst e; exact le_agg (tn_mono h)
theorem leo_tn {t : TypeId} {K L : Nat} {z y : Rat} (h : K ≤ L) (e : z = y) : AO.le (.box t (tn K z)) (.box t (tn L y)) := by subst e; exact leo_box (tn_mono h)
theorem le_tn2 {K L M : Nat} {n d : Int} {q : Rat} (h1 : K ≤ M) (h2 : L ≤ M) (e1 : n = q.num) (e2 : d = q.den) : AV.le (.d (.agg (zn K n ++ zn L d))) (.d (.agg (tn M q))) := by
  subst e1; subst e2
  refine le_agg fun B w cs h => ?_
  match cs, h with
  | [a, b, c, d], ⟨h1', h2', h3', h4', h5'⟩ => exact ⟨h1', lr_mono h1 _ _ _ h2', h3', lr_mono h2 _ _ _ h4', h5'⟩
theorem isp2a {K L : Nat} {s t : Bool} {xs ys : List Nat} {x y : Int} {el : Nat → Nat → Lf} (hx : zv s (val xs) = x) (hy : zv t (val ys) = y) (h0 : el 0 0 = .v (.bool s) := by rfl) (h1 : el 0 1 = lr K xs := by rfl) (h2 : el 1 0 = .v (.bool t) := by rfl) (h3 : el 1 1 = lr L ys := by rfl) : IsP (.row 2 2 el) (max K L) 2 (lin x y) := by
  refine ⟨⟨fun i => if i = 0 then (s, xs) else (t, ys), row_le fun i hi j hj B w v hv => ?_, fun i hi => ?_⟩, lin_z⟩
  · match i, hi, j, hj with
    | 0, _, 0, _ => rw [h0] at hv; exact hv
    | 0, _, 1, _ => rw [h1] at hv; exact lr_mono (Nat.le_max_left _ _) _ _ _ hv
    | 1, _, 0, _ => rw [h2] at hv; exact hv
    | 1, _, 1, _ => rw [h3] at hv; exact lr_mono (Nat.le_max_right _ _) _ _ _ hv
  · match i, hi with
    | 0, _ => exact hx
    | 1, _ => exact hy
theorem gcdN_two {x y : Int} : gcdN (lin x y) 2 = Nat.gcd x.natAbs y.natAbs := by
  show Nat.gcd (Nat.gcd 0 x.natAbs) y.natAbs = _
  rw [Nat.gcd_zero_left]
theorem mkR_posN {n d : Int} (h : 0 < d) : (Rat.divInt n d).num = n / ((gcdN (lin n d) 2 : Nat) : Int) ∧ ((Rat.divInt n d).den : Int) = d / ((gcdN (lin n d) 2 : Nat) : Int) := by rw [gcdN_two]; exact mkR_pos h
theorem mkR_negN {n d : Int} (h : d < 0) : (Rat.divInt n d).num = -n / ((gcdN (lin n d) 2 : Nat) : Int) ∧ ((Rat.divInt n d).den : Int) = -d / ((gcdN (lin n d) 2 : Nat) : Int) := by
  have h1 := mkR_pos (n := -n) (d := -d) (by omega)
  rw [Rat.neg_divInt_neg, Int.natAbs_neg, Int.natAbs_neg] at h1
  rw [gcdN_two]; exact h1
theorem g_ne {n d : Int} (h : d ≠ 0) : ((gcdN (lin n d) 2 : Nat) : Int) ≠ 0 := by rw [gcdN_two]; exact gcd_nz h
theorem g_l (n d : Int) : ((gcdN (lin n d) 2 : Nat) : Int) ∣ n := by rw [gcdN_two]; exact gcd_dvd_l n d
theorem g_r (n d : Int) : ((gcdN (lin n d) 2 : Nat) : Int) ∣ d := by rw [gcdN_two]; exact gcd_dvd_r n d
theorem mkR_zero (n : Int) : mkR n 0 = Rat.divInt n 1 := by unfold mkR; rw [if_pos rfl]
end Go.Proofs.YtcnfblffeghboaaGreat

/-
  PLAIN LAW of chapter 4: which of two rationals is greater; the middle, the whole number below. No condition; nothing of the program.
-/
set_option linter.unusedVariables false
set_option linter.unusedSimpArgs false
namespace Go.Proofs.YtcnfblffeghboaaGreat
open Go.RowKit

theorem mkR_self (q : Rat) : mkR q.num (q.den : Int) = q := by rw [mkR_ne (den_ne q), Rat.num_divInt_den]
theorem cmpQ_eq {a b : Rat} (h : a = b) : cmpQ a b = 0 := by subst h; unfold cmpQ cmpZ; simp
theorem cmpQ_lt {x y : Rat} (h : x < y) : cmpQ x y = -1 := by
  have := (Rat.lt_iff x y).1 h
  unfold cmpQ cmpZ
  (repeat' split) <;> omega
theorem cmpQ_gt {x y : Rat} (h : y < x) : cmpQ x y = 1 := by
  have := (Rat.lt_iff y x).1 h
  unfold cmpQ cmpZ
  (repeat' split) <;> omega
theorem ratTri (x y : Rat) : x < y ∨ x = y ∨ y < x := by
  by_cases h : x < y
  · exact Or.inl h
  · by_cases k : y < x
    · exact Or.inr (Or.inr k)
    · exact Or.inr (Or.inl (by grind))
theorem cmpQ_spec (x y : Rat) : (x < y ∧ cmpQ x y = -1) ∨ (x = y ∧ cmpQ x y = 0) ∨ (y < x ∧ cmpQ x y = 1) := by
  rcases ratTri x y with h | h | h
  · exact Or.inl ⟨h, cmpQ_lt h⟩
  · exact Or.inr (Or.inl ⟨h, cmpQ_eq h⟩)
  · exact Or.inr (Or.inr ⟨h, cmpQ_gt h⟩)
theorem cmpQ_bd (x y : Rat) : -1 ≤ cmpQ x y ∧ cmpQ x y ≤ 1 := by rcases cmpQ_spec x y with ⟨_, h⟩ | ⟨_, h⟩ | ⟨_, h⟩ <;> omega
theorem cmpQ_le {x y : Rat} : cmpQ x y ≤ 0 ↔ x ≤ y := by
  rcases cmpQ_spec x y with ⟨h, e⟩ | ⟨h, e⟩ | ⟨h, e⟩ <;> rw [e] <;> constructor <;> intro k <;> first | omega | grind
theorem cmpQ_ge {x y : Rat} : cmpQ x y ≥ 0 ↔ y ≤ x := by
  rcases cmpQ_spec x y with ⟨h, e⟩ | ⟨h, e⟩ | ⟨h, e⟩ <;> rw [e] <;> constructor <;> intro k <;> first | omega | grind
theorem cmpQ_zero {x y : Rat} : cmpQ x y = 0 ↔ x = y := by
  rcases cmpQ_spec x y with ⟨h, e⟩ | ⟨h, e⟩ | ⟨h, e⟩ <;> rw [e] <;> constructor <;> intro k <;> first | omega | grind
theorem cmpQ_anti (x y : Rat) : cmpQ y x = -cmpQ x y := by
  rcases cmpQ_spec x y with ⟨h, e⟩ | ⟨h, e⟩ | ⟨h, e⟩
  · rw [e, cmpQ_gt h]; rfl
  · rw [e, cmpQ_eq h.symm]; rfl
  · rw [e, cmpQ_lt h]
theorem cmpQ_congr {x y x' y' : Rat} (h1 : x < y ↔ x' < y') (h2 : y < x ↔ y' < x') : cmpQ x y = cmpQ x' y' := by
  rcases cmpQ_spec x y with ⟨h, e⟩ | ⟨h, e⟩ | ⟨h, e⟩
  · rw [e, cmpQ_lt (h1.1 h)]
  · rw [e, cmpQ_eq]
    have a1 : ¬ x' < y' := fun k => by have := h1.2 k; grind
    have a2 : ¬ y' < x' := fun k => by have := h2.2 k; grind
    grind
  · rw [e, cmpQ_gt (h2.1 h)]
theorem cmpQ_add (x y z : Rat) : cmpQ (x + z) (y + z) = cmpQ x y := cmpQ_congr (by constructor <;> intro h <;> grind) (by constructor <;> intro h <;> grind)
theorem cmpQ_neg (x y : Rat) : cmpQ (-x) (-y) = -cmpQ x y := by rw [← cmpQ_anti]; exact cmpQ_congr (by constructor <;> intro h <;> grind) (by constructor <;> intro h <;> grind)
theorem cmpQ_midl (x y : Rat) : cmpQ x ((x + y) / 2) = cmpQ x y := cmpQ_congr (by constructor <;> intro h <;> grind) (by constructor <;> intro h <;> grind)
theorem cmpQ_midr (x y : Rat) : cmpQ ((x + y) / 2) y = cmpQ x y := cmpQ_congr (by constructor <;> intro h <;> grind) (by constructor <;> intro h <;> grind)
theorem sgn_num (q : Rat) : sgn q.num = cmpQ q 0 := by
  unfold cmpQ cmpZ sgn
  have h1 : (0 : Rat).num = 0 := rfl
  have h2 : ((0 : Rat).den : Int) = 1 := rfl
  rw [h1, h2, Int.mul_one, Int.zero_mul]
theorem sgn_sub (x y : Rat) : sgn (x - y).num = cmpQ x y := by
  rw [sgn_num]
  exact cmpQ_congr (by constructor <;> intro h <;> grind) (by constructor <;> intro h <;> grind)
theorem floor_q (q : Rat) : q.num / (q.den : Int) = q.floor := (Rat.floor_def q).symm
theorem floor_le' (q : Rat) : ((q.num / (q.den : Int) : Int) : Rat) ≤ q := by rw [floor_q]; exact Rat.floor_le q
theorem floor_gt' (q : Rat) : q < ((q.num / (q.den : Int) : Int) : Rat) + 1 := by
  rw [floor_q]
  have := Rat.lt_floor (x := q)
  grind
theorem mid_div (P Q : Rat) : Rat.divInt (P.num * Q.den + Q.num * P.den) (P.den * Q.den * 2) = (P + Q) / 2 := by
  have h1 := mkR_add P Q
  rw [mkR_ne (Int.mul_ne_zero (den_ne P) (den_ne Q))] at h1
  have h2 : Rat.divInt 1 2 = (1 : Rat) / 2 := by decide +kernel
  rw [← Int.mul_one (P.num * Q.den + Q.num * P.den), ← Rat.divInt_mul_divInt, h1, h2]
  grind
theorem half_mul (P Q : Rat) : (P + Q) * mkR 1 2 = (P + Q) / 2 := by
  have h2 : mkR 1 2 = (1 : Rat) / 2 := by decide +kernel
  rw [h2]; grind
theorem num_ne {q : Rat} (h : q ≠ 0) : q.num ≠ 0 := fun e => h (Rat.num_eq_zero.1 e)
theorem quo_div {P Q : Rat} (h : Q ≠ 0) : Rat.divInt (P.num * Q.den) (P.den * Q.num) = P / Q := by
  have := mkR_quo P Q h
  rwa [mkR_ne (Int.mul_ne_zero (den_ne P) (num_ne h))] at this
theorem mkR_scale {n d m : Int} (hd : d ≠ 0) (hm : m ≠ 0) : mkR (n * m) (d * m) = mkR n d := by
  rw [mkR_ne (Int.mul_ne_zero hd hm), mkR_ne hd, Int.mul_comm n m, Int.mul_comm d m, Rat.divInt_mul_left hm]
/-- The sum, the greatest of many. -/
def tsum (q : Nat → Rat) : Nat → Rat
  | 0 => 0
  | i + 1 => tsum q i + q i
def tmax (a : Rat) (q : Nat → Rat) : Nat → Rat
  | 0 => a
  | i + 1 => if cmpQ (q i) (tmax a q i) > 0 then q i else tmax a q i
theorem tmax_ge (a : Rat) (q : Nat → Rat) : ∀ n, a ≤ tmax a q n ∧ (∀ i, i < n → q i ≤ tmax a q n) ∧ (tmax a q n = a ∨ ∃ i, i < n ∧ tmax a q n = q i)
  | 0 => ⟨by show a ≤ a; grind, fun i hi => absurd hi (Nat.not_lt_zero _), Or.inl rfl⟩
  | n + 1 => by
    obtain ⟨h1, h2, h3⟩ := tmax_ge a q n
    unfold tmax
    by_cases h : cmpQ (q n) (tmax a q n) > 0
    · rw [if_pos h]
      have hlt : tmax a q n < q n := by
        rcases cmpQ_spec (q n) (tmax a q n) with ⟨k, e⟩ | ⟨k, e⟩ | ⟨k, e⟩
        · omega
        · omega
        · exact k
      refine ⟨by grind, fun i hi => ?_, Or.inr ⟨n, by omega, rfl⟩⟩
      rcases Nat.eq_or_lt_of_le (Nat.le_of_lt_succ hi) with e | e
      · subst e; grind
      · have := h2 i e; grind
    · rw [if_neg h]
      have hle : q n ≤ tmax a q n := cmpQ_le.1 (by omega)
      refine ⟨h1, fun i hi => ?_, ?_⟩
      · rcases Nat.eq_or_lt_of_le (Nat.le_of_lt_succ hi) with e | e
        · subst e; exact hle
        · exact h2 i e
      · rcases h3 with h3 | ⟨i, hi, e⟩
        · exact Or.inl h3
        · exact Or.inr ⟨i, by omega, e⟩
theorem ist_zz (K : Nat) (n d : Int) : IsT (zn K n ++ zn K d) K n d := ⟨decide (n < 0), limbs n.natAbs, decide (d < 0), limbs d.natAbs, fun _ _ _ h => h, by rw [val_limbs]; exact zv_natAbs _, by rw [val_limbs]; exact zv_natAbs _⟩
theorem sgn_den (q : Rat) : sgn (q.den : Int) > 0 := by
  have h := q.den_pos
  unfold sgn
  (repeat' split) <;> omega
theorem gcd_red (q : Rat) : gcdN (lin q.num (q.den : Int)) 2 = 1 := by
  rw [gcdN_two]
  exact q.reduced
theorem den_pos (q : Rat) : (0 : Int) < (q.den : Int) := by have := q.den_pos; omega
theorem zv_lt {s : Bool} {m : Nat} : zv s m < 0 ↔ s = true ∧ m ≠ 0 := by
  cases s
  · show (m : Int) < 0 ↔ _
    constructor <;> intro h
    · omega
    · exact absurd h.1 (by decide)
  · show -(m : Int) < 0 ↔ _
    constructor <;> intro h
    · exact ⟨rfl, by omega⟩
    · have := h.2; omega
/-- Division by a number above 0, out of the sizes'. -/
theorem dmP {x y : Int} (hy : 0 < y) (h : ¬ (x < 0 ∧ x.natAbs % y.natAbs ≠ 0)) : zv (decide (x < 0)) (x.natAbs / y.natAbs) = x / y ∧ zv (decide (x < 0)) (x.natAbs % y.natAbs) = x % y := by
  obtain ⟨n, rfl⟩ := Int.eq_ofNat_of_zero_le (Int.le_of_lt hy)
  rw [show Int.natAbs (n : Int) = n from rfl]
  have hn : 0 < n := by omega
  by_cases hx : x < 0
  · rw [show Int.natAbs (n : Int) = n from rfl] at h
    have h0 : x.natAbs % n = 0 := Classical.byContradiction fun e => h ⟨hx, e⟩
    obtain ⟨m, hm⟩ : ∃ m : Nat, m = x.natAbs := ⟨_, rfl⟩
    have hxm : x = -(m : Int) := by omega
    rw [← hm] at h0 ⊢
    have hd := Nat.div_add_mod m n
    have hu := (Int.ediv_emod_unique (a := x) (b := (n : Int)) (r := 0) (q := -((m / n : Nat) : Int)) hy).2 ⟨by
      rw [Int.mul_neg, ← Int.natCast_mul]; omega, Int.le_refl _, hy⟩
    rw [decide_eq_true hx, h0, hu.1, hu.2]
    exact ⟨rfl, rfl⟩
  · obtain ⟨m, rfl⟩ := Int.eq_ofNat_of_zero_le (Int.not_lt.1 hx)
    rw [decide_eq_false hx, show Int.natAbs (m : Int) = m from rfl]
    exact ⟨Int.natCast_ediv _ _, Int.natCast_emod _ _⟩
theorem dmN {x y : Int} (hy : 0 < y) (h : x < 0 ∧ x.natAbs % y.natAbs ≠ 0) : zv (decide (x < 0)) (x.natAbs / y.natAbs) - 1 = x / y ∧ zv (decide (x < 0)) (x.natAbs % y.natAbs) + y = x % y := by
  obtain ⟨n, rfl⟩ := Int.eq_ofNat_of_zero_le (Int.le_of_lt hy)
  rw [show Int.natAbs (n : Int) = n from rfl] at h ⊢
  obtain ⟨hx, h0⟩ := h
  have hn : 0 < n := by omega
  obtain ⟨m, hm⟩ : ∃ m : Nat, m = x.natAbs := ⟨_, rfl⟩
  have hxm : x = -(m : Int) := by omega
  rw [← hm] at h0 ⊢
  have hd := Nat.div_add_mod m n
  have hlt := Nat.mod_lt m hn
  have hu := (Int.ediv_emod_unique (a := x) (b := (n : Int)) (r := (n : Int) - ((m % n : Nat) : Int)) (q := -((m / n : Nat) : Int) - 1) hy).2 ⟨by
    rw [Int.mul_sub, Int.mul_neg, ← Int.natCast_mul, Int.mul_one]; omega, by omega, by omega⟩
  rw [decide_eq_true hx, hu.1, hu.2]
  exact ⟨rfl, by show -((m % n : Nat) : Int) + (n : Int) = _; omega⟩
end Go.Proofs.YtcnfblffeghboaaGreat

/-
  RATIONALS of the program, by the machine.
-/
set_option linter.unusedVariables false
set_option linter.unusedSimpArgs false
namespace Go.Proofs.YtcnfblffeghboaaGreat
open Go.RowKit

set_option maxRecDepth 100000 in
set_option maxHeartbeats 4000000 in
theorem aTLow {a b : List Lf} {K L M : Nat} {x y : Int} (ha : IsZ a K x) (hb : IsZ b L y) (hy : y ≠ 0) (hM : max (max K L) 1 + 1 ≤ M := by decide) (hMM : M ≤ 100000000 := by decide) : ACall Tryz.prog 81 [.agg a, .agg b] (.d (.agg (tn M (Rat.divInt x y)))) := by
  obtain ⟨sa, xa, ha, ea⟩ := ha
  obtain ⟨sb, xb, hb, eb⟩ := hb
  refine ACall.le (dl (DV.z ha) (dl (DV.z hb) dl0)) AV.le.rfl ?_
  refine acallN hTT 31 [.cell 4 30] Tryz.func81 rfl rfl rfl rfl rfl ?_
  refine cSeq ?_
  refine cReg ?_
  refine mN hTT (.box 26 ([.v (.bool sa), lr K xa])) rfl rfl rfl ?_
  refine mN hTT (.box 26 ([.v (.bool sb), lr L xb])) rfl rfl rfl ?_
  refine mN hTT (.box 30 ([.v (.bool false), .v (.slice none 0 0), .v (.bool false), .v (.slice none 0 0)])) rfl rfl rfl ?_
  refine mNil ?_
  refine tN ?_
  refine cSeq ?_
  refine cReg ?_
  refine mV hTT (.d (.agg ([.v (.bool sa), lr K xa]))) rfl ?_
  refine mV hTT (.d (.agg ([.v (.bool sb), lr L xb]))) rfl ?_
  refine mB hTT (.d (.one (.row 2 2 (fun i' j' => (([.v (.bool sa), lr K xa] ++ [.v (.bool sb), lr L xb])[i' * 2 + j']?).getD (.v undef))))) rfl ?_
  refine mC0 (aGcd (isp2a (K := K) (L := L) ea eb) (by decide) (by omega)) rfl rfl rfl ?_
  refine mN hTT (.box 26 ([.v (.bool false), .v (.slice none 0 0)])) rfl rfl rfl ?_
  refine mS hTT 5 (.box 26 (zn (max K L) ((gcdN (lin x y) 2) : Int))) rfl ?_
  refine mNil ?_
  refine tN ?_
  refine cSeq ?_
  refine cSeq ?_
  refine cReg ?_
  refine mV hTT (.ptr 3 0) rfl ?_
  refine mV hTT (.d (.one (.v (.bool sb)))) rfl ?_
  refine mNil ?_
  refine tN ?_
  refine cCond rfl (fun hc1 => ?_) (fun hc1 => ?_)
  · skip
    refine cDrawK hTT 4 (by kernel_rfl) (by kernel_rfl) (by kernel_rfl) ?_
    refine .cons (OpS.V (.d (.agg ([.v (.bool sa), lr K xa]))) rfl) ?_
    refine .cons (OpS.C0 (aNeg ⟨sa, xa, fun _ _ _ h => h, ea⟩ (by omega)) rfl rfl rfl) ?_
    refine .cons (OpS.V (.d (.agg ([.v (.bool sb), lr L xb]))) rfl) ?_
    refine .cons (OpS.C0 (aNeg ⟨sb, xb, fun _ _ _ h => h, eb⟩ (by omega)) rfl rfl rfl) ?_
    refine .nil ?_
    refine mS hTT 2 (.box 26 (zn K (-x))) rfl ?_
    refine mS hTT 3 (.box 26 (zn L (-y))) rfl ?_
    refine mNil ?_
    refine tN ?_
    refine cSeq ?_
    have hyn : y < 0 := by subst hc1; have h0 : -(val xb : Int) = y := eb; omega
    refine cReg ?_
    refine mV hTT (.d (.agg (zn K (-x)))) rfl ?_
    refine mV hTT (.d (.agg (zn (max K L) ((gcdN (lin x y) 2) : Int)))) rfl ?_
    refine mC0 (aExact (isz K (-x)) (isz (max K L) ((gcdN (lin x y) 2) : Int)) (g_ne hy) (Int.dvd_neg.2 (g_l x y)) (M := (max K 1 + 1)) (by omega) (by omega) (by omega)) rfl rfl rfl ?_
    refine mV hTT _ rfl ?_
    refine mV hTT _ rfl ?_
    refine mV hTT _ rfl ?_
    refine mS hTT 2 (.box 26 (zn (max K 1 + 1) ((-x) / ((gcdN (lin x y) 2) : Int)))) rfl ?_
    refine mNil ?_
    refine tN ?_
    refine cSeq ?_
    refine cReg ?_
    refine mV hTT (.d (.agg (zn L (-y)))) rfl ?_
    refine mV hTT (.d (.agg (zn (max K L) ((gcdN (lin x y) 2) : Int)))) rfl ?_
    refine mC0 (aExact (isz L (-y)) (isz (max K L) ((gcdN (lin x y) 2) : Int)) (g_ne hy) (Int.dvd_neg.2 (g_r x y)) (M := (max L 1 + 1)) (by omega) (by omega) (by omega)) rfl rfl rfl ?_
    refine mV hTT _ rfl ?_
    refine mV hTT _ rfl ?_
    refine mV hTT _ rfl ?_
    refine mS hTT 3 (.box 26 (zn (max L 1 + 1) ((-y) / ((gcdN (lin x y) 2) : Int)))) rfl ?_
    refine mNil ?_
    refine tN ?_
    refine cSeq ?_
    refine cReg ?_
    refine mV hTT (.d (.agg (zn (max K 1 + 1) ((-x) / ((gcdN (lin x y) 2) : Int))))) rfl ?_
    refine mV hTT (.d (.agg (zn (max L 1 + 1) ((-y) / ((gcdN (lin x y) 2) : Int))))) rfl ?_
    refine mV hTT (.d (.agg (zn (max K 1 + 1) ((-x) / ((gcdN (lin x y) 2) : Int)) ++ zn (max L 1 + 1) ((-y) / ((gcdN (lin x y) 2) : Int))))) rfl ?_
    refine mS hTT 4 (.box 30 (zn (max K 1 + 1) ((-x) / ((gcdN (lin x y) 2) : Int)) ++ zn (max L 1 + 1) ((-y) / ((gcdN (lin x y) 2) : Int)))) rfl ?_
    refine mNil ?_
    refine tN ?_
    refine cRet ?_
    exact rQ rfl (le_tn2 (by omega) (by omega) (mkR_negN hyn).1.symm (mkR_negN hyn).2.symm)
  · skip
    refine cSkip ?_
    refine tN ?_
    refine cSeq ?_
    have hyn : 0 < y := by subst hc1; have h0 : (val xb : Int) = y := eb; omega
    refine cReg ?_
    refine mV hTT (.d (.agg ([.v (.bool sa), lr K xa]))) rfl ?_
    refine mV hTT (.d (.agg (zn (max K L) ((gcdN (lin x y) 2) : Int)))) rfl ?_
    refine mC0 (aExact ⟨sa, xa, fun _ _ _ h => h, ea⟩ (isz (max K L) ((gcdN (lin x y) 2) : Int)) (g_ne hy) (g_l x y) (M := (max K 1 + 1)) (by omega) (by omega) (by omega)) rfl rfl rfl ?_
    refine mV hTT _ rfl ?_
    refine mV hTT _ rfl ?_
    refine mV hTT _ rfl ?_
    refine mS hTT 2 (.box 26 (zn (max K 1 + 1) (x / ((gcdN (lin x y) 2) : Int)))) rfl ?_
    refine mNil ?_
    refine tN ?_
    refine cSeq ?_
    refine cReg ?_
    refine mV hTT (.d (.agg ([.v (.bool sb), lr L xb]))) rfl ?_
    refine mV hTT (.d (.agg (zn (max K L) ((gcdN (lin x y) 2) : Int)))) rfl ?_
    refine mC0 (aExact ⟨sb, xb, fun _ _ _ h => h, eb⟩ (isz (max K L) ((gcdN (lin x y) 2) : Int)) (g_ne hy) (g_r x y) (M := (max L 1 + 1)) (by omega) (by omega) (by omega)) rfl rfl rfl ?_
    refine mV hTT _ rfl ?_
    refine mV hTT _ rfl ?_
    refine mV hTT _ rfl ?_
    refine mS hTT 3 (.box 26 (zn (max L 1 + 1) (y / ((gcdN (lin x y) 2) : Int)))) rfl ?_
    refine mNil ?_
    refine tN ?_
    refine cSeq ?_
    refine cReg ?_
    refine mV hTT (.d (.agg (zn (max K 1 + 1) (x / ((gcdN (lin x y) 2) : Int))))) rfl ?_
    refine mV hTT (.d (.agg (zn (max L 1 + 1) (y / ((gcdN (lin x y) 2) : Int))))) rfl ?_
    refine mV hTT (.d (.agg (zn (max K 1 + 1) (x / ((gcdN (lin x y) 2) : Int)) ++ zn (max L 1 + 1) (y / ((gcdN (lin x y) 2) : Int))))) rfl ?_
    refine mS hTT 4 (.box 30 (zn (max K 1 + 1) (x / ((gcdN (lin x y) 2) : Int)) ++ zn (max L 1 + 1) (y / ((gcdN (lin x y) 2) : Int)))) rfl ?_
    refine mNil ?_
    refine tN ?_
    refine cRet ?_
    exact rQ rfl (le_tn2 (by omega) (by omega) (mkR_posN hyn).1.symm (mkR_posN hyn).2.symm)

set_option maxRecDepth 100000 in
set_option maxHeartbeats 4000000 in
theorem aTNorm {a : List Lf} {K M : Nat} {n d : Int} (ha : IsT a K n d) (hM : max K 2 + 1 ≤ M := by decide) (hMM : M ≤ 100000000 := by decide) : ACall Tryz.prog 66 [.agg a] (.d (.agg (tn M (mkR n d)))) := by
  obtain ⟨s, xs, t, ys, ha, e1, e2⟩ := ha
  refine ACall.le (dl (DV.g ha) dl0) AV.le.rfl ?_
  refine acallN hTT 15 [.cell 2 30] Tryz.func66 rfl rfl rfl rfl rfl ?_
  refine cSeq ?_
  refine cReg ?_
  refine mN hTT (.box 30 ([.v (.bool s), lr K xs] ++ [.v (.bool t), lr K ys])) rfl rfl rfl ?_
  refine mN hTT (.box 30 ([.v (.bool false), .v (.slice none 0 0), .v (.bool false), .v (.slice none 0 0)])) rfl rfl rfl ?_
  refine mNil ?_
  refine tN ?_
  refine cSeq ?_
  refine cReg ?_
  refine mV hTT (.ptr 1 2) rfl ?_
  refine mV hTT (.d (.agg ([.v (.bool t), lr K ys]))) rfl ?_
  refine mC0 (aNorm ⟨t, ys, fun _ _ _ h => h, e2⟩ (by omega)) rfl rfl rfl ?_
  refine mN hTT (.box 26 ([.v (.bool false), .v (.slice none 0 0)])) rfl rfl rfl ?_
  refine mS hTT 3 (.box 26 (zn K d)) rfl ?_
  refine mNil ?_
  refine tN ?_
  refine cSeq ?_
  refine cSeq ?_
  refine cReg ?_
  refine mV hTT (.d (.agg (zn K d))) rfl ?_
  refine mC0 (aZero (isn K d)) rfl rfl rfl ?_
  refine mNil ?_
  refine tN ?_
  refine cCond rfl (fun hc1 => ?_) (fun hc1 => ?_)
  · skip
    refine cReg ?_
    refine mC0 (aOf (n := 1) (by decide) (by decide)) rfl rfl rfl ?_
    refine mS hTT 3 (.box 26 (zn 2 1)) rfl ?_
    refine mNil ?_
    refine tN ?_
    refine cSeq ?_
    refine cDrawK hTT 5 (by kernel_rfl) (by kernel_rfl) (by kernel_rfl) ?_
    refine .cons (OpS.V (.ptr 1 0) rfl) ?_
    refine .cons (OpS.V (.d (.agg ([.v (.bool s), lr K xs]))) rfl) ?_
    refine .cons (OpS.C0 (aNorm ⟨s, xs, fun _ _ _ h => h, e1⟩ (by omega)) rfl rfl rfl) ?_
    refine .cons (OpS.V (.d (.agg (zn 2 1))) rfl) ?_
    refine .cons (OpS.C0 (aTLow (isz K n) (isz 2 1) (by decide) (M := (max (max K 2) 1 + 1)) (by omega) (by omega)) rfl rfl rfl) ?_
    refine .nil ?_
    refine mS hTT 2 (.box 30 (tn (max (max K 2) 1 + 1) (Rat.divInt n 1))) rfl ?_
    refine mNil ?_
    refine tN ?_
    refine cRet ?_
    exact rQ rfl (le_tn (by omega) (by rw [of_decide_eq_true hc1, mkR_zero]))
  · skip
    refine cSkip ?_
    refine tN ?_
    refine cSeq ?_
    refine cDrawK hTT 5 (by kernel_rfl) (by kernel_rfl) (by kernel_rfl) ?_
    refine .cons (OpS.V (.ptr 1 0) rfl) ?_
    refine .cons (OpS.V (.d (.agg ([.v (.bool s), lr K xs]))) rfl) ?_
    refine .cons (OpS.C0 (aNorm ⟨s, xs, fun _ _ _ h => h, e1⟩ (by omega)) rfl rfl rfl) ?_
    refine .cons (OpS.V (.d (.agg (zn K d))) rfl) ?_
    refine .cons (OpS.C0 (aTLow (isz K n) (isz K d) (of_decide_eq_false hc1) (M := (max (max K K) 1 + 1)) (by omega) (by omega)) rfl rfl rfl) ?_
    refine .nil ?_
    refine mS hTT 2 (.box 30 (tn (max (max K K) 1 + 1) (Rat.divInt n d))) rfl ?_
    refine mNil ?_
    refine tN ?_
    refine cRet ?_
    exact rQ rfl (le_tn (by omega) (mkR_ne (of_decide_eq_false hc1)).symm)

set_option maxRecDepth 100000 in
set_option maxHeartbeats 4000000 in
theorem aTMake {a b : List Lf} {K L M : Nat} {x y : Int} (ha : IsZ a K x) (hb : IsZ b L y) (hy : y ≠ 0) (hM : max (max K L) 1 + 1 ≤ M := by decide) (hMM : M ≤ 100000000 := by decide) : ACall Tryz.prog 83 [.agg a, .agg b] (.tup [.agg (tn M (Rat.divInt x y)), .one (.v (.int .i64 0))]) := by
  obtain ⟨sa, xa, ha, ea⟩ := ha
  obtain ⟨sb, xb, hb, eb⟩ := hb
  refine ACall.le (dl (DV.z ha) (dl (DV.z hb) dl0)) AV.le.rfl ?_
  refine acallN hTT 15 [.cell 4 30, .tmp 5] Tryz.func83 rfl rfl rfl rfl rfl ?_
  refine cSeq ?_
  refine cReg ?_
  refine mN hTT (.box 26 ([.v (.bool sa), lr K xa])) rfl rfl rfl ?_
  refine mN hTT (.box 26 ([.v (.bool sb), lr L xb])) rfl rfl rfl ?_
  refine mN hTT (.box 30 ([.v (.bool false), .v (.slice none 0 0), .v (.bool false), .v (.slice none 0 0)])) rfl rfl rfl ?_
  refine mV hTT _ rfl ?_
  refine mNil ?_
  refine tN ?_
  refine cSeq ?_
  refine cSeq ?_
  refine cReg ?_
  refine mV hTT (.d (.agg ([.v (.bool sb), lr L xb]))) rfl ?_
  refine mC0 (aNorm ⟨sb, xb, fun _ _ _ h => h, eb⟩ (by omega)) rfl rfl rfl ?_
  refine mS hTT 3 (.box 26 (zn L y)) rfl ?_
  refine mNil ?_
  refine tN ?_
  refine cSeq ?_
  refine cReg ?_
  refine mV hTT (.d (.agg (zn L y))) rfl ?_
  refine mC0 (aZero (isn L y)) rfl rfl rfl ?_
  refine mNil ?_
  refine tN ?_
  refine cView 9 (.d (.one (.v (.bool false)))) rfl (le_bool (decide_eq_false hy)) ?_
  refine cF rfl ?_
  refine cSkip ?_
  refine tN ?_
  refine cSeq ?_
  refine cDrawK hTT 4 (by kernel_rfl) (by kernel_rfl) (by kernel_rfl) ?_
  refine .cons (OpS.V (.d (.agg ([.v (.bool sa), lr K xa]))) rfl) ?_
  refine .cons (OpS.C0 (aNorm ⟨sa, xa, fun _ _ _ h => h, ea⟩ (by omega)) rfl rfl rfl) ?_
  refine .cons (OpS.V (.d (.agg (zn L y))) rfl) ?_
  refine .cons (OpS.C0 (aTLow (isz K x) (isz L y) hy (M := (max (max K L) 1 + 1)) (by omega) (by omega)) rfl rfl rfl) ?_
  refine .nil ?_
  refine mS hTT 4 (.box 30 (tn (max (max K L) 1 + 1) (Rat.divInt x y))) rfl ?_
  refine mV hTT _ rfl ?_
  refine mNil ?_
  refine tN ?_
  refine cRet ?_
  exact rQ rfl (le_tup (dl (dle (le_tn hM rfl)) (dl DV.same dl0)))

set_option maxRecDepth 100000 in
set_option maxHeartbeats 4000000 in
theorem aTInt {a : List Lf} {K M : Nat} {x : Int} (ha : IsZ a K x) (hM : max K 2 ≤ M := by decide) (hMM : M ≤ 100000000 := by decide) : ACall Tryz.prog 45 [.agg a] (.d (.agg (tn M (x : Rat)))) := by
  obtain ⟨sa, xa, ha, ea⟩ := ha
  refine ACall.le (dl (DV.z ha) dl0) AV.le.rfl ?_
  refine acallN hTT 7 [.cell 2 30] Tryz.func45 rfl rfl rfl rfl rfl ?_
  refine cSeq ?_
  refine cReg ?_
  refine mN hTT (.box 26 ([.v (.bool sa), lr K xa])) rfl rfl rfl ?_
  refine mN hTT (.box 30 ([.v (.bool false), .v (.slice none 0 0), .v (.bool false), .v (.slice none 0 0)])) rfl rfl rfl ?_
  refine mNil ?_
  refine tN ?_
  refine cSeq ?_
  refine cReg ?_
  refine mV hTT (.d (.agg ([.v (.bool sa), lr K xa]))) rfl ?_
  refine mC0 (aNorm ⟨sa, xa, fun _ _ _ h => h, ea⟩ (by omega)) rfl rfl rfl ?_
  refine mC0 (aOf (n := 1) (by decide) (by decide)) rfl rfl rfl ?_
  refine mV hTT (.d (.agg (zn K x ++ zn 2 1))) rfl ?_
  refine mS hTT 2 (.box 30 (zn K x ++ zn 2 1)) rfl ?_
  refine mNil ?_
  refine tN ?_
  refine cRet ?_
  exact rQ rfl (le_tn2 (by omega) (by omega) (Rat.num_intCast x).symm (by rw [Rat.den_intCast]; rfl))

end Go.Proofs.YtcnfblffeghboaaGreat

/-
  RATIONALS of the program, by the machine (2).
-/
set_option linter.unusedVariables false
set_option linter.unusedSimpArgs false
namespace Go.Proofs.YtcnfblffeghboaaGreat
open Go.RowKit

theorem mkR_sub (a b : Rat) : Rat.divInt (a.num * b.den - b.num * a.den) (a.den * b.den) = a - b := by
  have h := mkR_add a (-b)
  rw [mkR_ne (Int.mul_ne_zero (den_ne a) (den_ne (-b))), Rat.neg_num, Rat.neg_den, Int.neg_mul, ← Int.sub_eq_add_neg, ← Rat.sub_eq_add_neg] at h
  exact h
theorem mkR_nz (a b : Rat) : (a.den : Int) * (b.den : Int) ≠ 0 := Int.mul_ne_zero (den_ne a) (den_ne b)
set_option maxRecDepth 100000 in
set_option maxHeartbeats 4000000 in
theorem aTCross {a b : List Lf} {K L M : Nat} {n d m e : Int} (ha : IsT a K n d) (hb : IsT b L m e) (hM : (max K 2 + 1) + (max L 2 + 1) ≤ M := by decide) (hMM : M ≤ 100000000 := by decide) : ACall Tryz.prog 121 [.agg a, .agg b] (.tup [.agg (zn M (Rat.num (mkR n d) * (Rat.den (mkR m e) : Int))), .agg (zn M (Rat.num (mkR m e) * (Rat.den (mkR n d) : Int))), .agg (zn M ((Rat.den (mkR n d) : Int) * (Rat.den (mkR m e) : Int)))]) := by
  obtain ⟨s0, xs0, t0, ys0, ha, e0, k0⟩ := ha
  obtain ⟨s1, xs1, t1, ys1, hb, e1, k1⟩ := hb
  refine ACall.le (dl (DV.g ha) (dl (DV.g hb) dl0)) AV.le.rfl ?_
  refine acallN hTT 26 [.cell 4 26, .cell 5 26, .cell 6 26] Tryz.func121 rfl rfl rfl rfl rfl ?_
  refine cSeq ?_
  refine cReg ?_
  refine mN hTT (.box 30 ([.v (.bool s0), lr K xs0] ++ [.v (.bool t0), lr K ys0])) rfl rfl rfl ?_
  refine mN hTT (.box 30 ([.v (.bool s1), lr L xs1] ++ [.v (.bool t1), lr L ys1])) rfl rfl rfl ?_
  refine mN hTT (.box 26 ([.v (.bool false), .v (.slice none 0 0)])) rfl rfl rfl ?_
  refine mN hTT (.box 26 ([.v (.bool false), .v (.slice none 0 0)])) rfl rfl rfl ?_
  refine mN hTT (.box 26 ([.v (.bool false), .v (.slice none 0 0)])) rfl rfl rfl ?_
  refine mNil ?_
  refine tN ?_
  refine cSeq ?_
  refine cDrawK hTT 4 (by kernel_rfl) (by kernel_rfl) (by kernel_rfl) ?_
  refine .cons (OpS.V (.d (.agg ([.v (.bool s0), lr K xs0] ++ [.v (.bool t0), lr K ys0]))) rfl) ?_
  refine .cons (OpS.C0 (aTNorm (⟨s0, xs0, t0, ys0, fun _ _ _ h => h, e0, k0⟩ : IsT ([.v (.bool s0), lr K xs0] ++ [.v (.bool t0), lr K ys0]) K n d) (M := (max K 2 + 1)) (by omega) (by omega)) rfl rfl rfl) ?_
  refine .cons (OpS.V (.d (.agg ([.v (.bool s1), lr L xs1] ++ [.v (.bool t1), lr L ys1]))) rfl) ?_
  refine .cons (OpS.C0 (aTNorm (⟨s1, xs1, t1, ys1, fun _ _ _ h => h, e1, k1⟩ : IsT ([.v (.bool s1), lr L xs1] ++ [.v (.bool t1), lr L ys1]) L m e) (M := (max L 2 + 1)) (by omega) (by omega)) rfl rfl rfl) ?_
  refine .nil ?_
  refine mS hTT 2 (.box 30 (tn (max K 2 + 1) (mkR n d))) rfl ?_
  refine mS hTT 3 (.box 30 (tn (max L 2 + 1) (mkR m e))) rfl ?_
  refine mNil ?_
  refine tN ?_
  refine cSeq ?_
  refine cDrawK hTT 15 (by kernel_rfl) (by kernel_rfl) (by kernel_rfl) ?_
  refine .cons (OpS.V (.ptr 2 0) rfl) ?_
  refine .cons (OpS.V (.d (.agg (zn (max K 2 + 1) (Rat.num (mkR n d))))) rfl) ?_
  refine .cons (OpS.V (.ptr 3 2) rfl) ?_
  refine .cons (OpS.V (.d (.agg (zn (max L 2 + 1) (Rat.den (mkR m e) : Int)))) rfl) ?_
  refine .cons (OpS.C0 (aMul (isz (max K 2 + 1) (Rat.num (mkR n d))) (isz (max L 2 + 1) (Rat.den (mkR m e) : Int)) (M := ((max K 2 + 1) + (max L 2 + 1))) (by omega) (by omega) (by omega)) rfl rfl rfl) ?_
  refine .cons (OpS.V (.ptr 3 0) rfl) ?_
  refine .cons (OpS.V (.d (.agg (zn (max L 2 + 1) (Rat.num (mkR m e))))) rfl) ?_
  refine .cons (OpS.V (.ptr 2 2) rfl) ?_
  refine .cons (OpS.V (.d (.agg (zn (max K 2 + 1) (Rat.den (mkR n d) : Int)))) rfl) ?_
  refine .cons (OpS.C0 (aMul (isz (max L 2 + 1) (Rat.num (mkR m e))) (isz (max K 2 + 1) (Rat.den (mkR n d) : Int)) (M := ((max L 2 + 1) + (max K 2 + 1))) (by omega) (by omega) (by omega)) rfl rfl rfl) ?_
  refine .cons (OpS.V (.ptr 2 2) rfl) ?_
  refine .cons (OpS.V (.d (.agg (zn (max K 2 + 1) (Rat.den (mkR n d) : Int)))) rfl) ?_
  refine .cons (OpS.V (.ptr 3 2) rfl) ?_
  refine .cons (OpS.V (.d (.agg (zn (max L 2 + 1) (Rat.den (mkR m e) : Int)))) rfl) ?_
  refine .cons (OpS.C0 (aMul (isz (max K 2 + 1) (Rat.den (mkR n d) : Int)) (isz (max L 2 + 1) (Rat.den (mkR m e) : Int)) (M := ((max K 2 + 1) + (max L 2 + 1))) (by omega) (by omega) (by omega)) rfl rfl rfl) ?_
  refine .nil ?_
  refine mS hTT 4 (.box 26 (zn ((max K 2 + 1) + (max L 2 + 1)) ((Rat.num (mkR n d)) * (Rat.den (mkR m e) : Int)))) rfl ?_
  refine mS hTT 5 (.box 26 (zn ((max L 2 + 1) + (max K 2 + 1)) ((Rat.num (mkR m e)) * (Rat.den (mkR n d) : Int)))) rfl ?_
  refine mS hTT 6 (.box 26 (zn ((max K 2 + 1) + (max L 2 + 1)) ((Rat.den (mkR n d) : Int) * (Rat.den (mkR m e) : Int)))) rfl ?_
  refine mNil ?_
  refine tN ?_
  refine cRet ?_
  exact rQ rfl (le_tup (dl (dle (le_zn (by omega) rfl)) (dl (dle (le_zn (by omega) rfl)) (dl (dle (le_zn (by omega) rfl)) dl0))))

set_option maxRecDepth 100000 in
set_option maxHeartbeats 4000000 in
theorem aTCmp {a b : List Lf} {K L : Nat} {n d m e : Int} (ha : IsT a K n d) (hb : IsT b L m e) (hK : K ≤ 10000000 := by decide) (hL : L ≤ 10000000 := by decide) : ACall Tryz.prog 117 [.agg a, .agg b] (.d (.one (.v (.int .i64 (cmpQ (mkR n d) (mkR m e)))))) := by
  obtain ⟨s0, xs0, t0, ys0, ha, e0, k0⟩ := ha
  obtain ⟨s1, xs1, t1, ys1, hb, e1, k1⟩ := hb
  refine ACall.le (dl (DV.g ha) (dl (DV.g hb) dl0)) AV.le.rfl ?_
  refine acallN hTT 18 [.tmp 4] Tryz.func117 rfl rfl rfl rfl rfl ?_
  refine cSeq ?_
  refine cReg ?_
  refine mN hTT (.box 30 ([.v (.bool s0), lr K xs0] ++ [.v (.bool t0), lr K ys0])) rfl rfl rfl ?_
  refine mN hTT (.box 30 ([.v (.bool s1), lr L xs1] ++ [.v (.bool t1), lr L ys1])) rfl rfl rfl ?_
  refine mV hTT _ rfl ?_
  refine mNil ?_
  refine tN ?_
  refine cSeq ?_
  refine cReg ?_
  refine mV hTT (.d (.agg ([.v (.bool s0), lr K xs0] ++ [.v (.bool t0), lr K ys0]))) rfl ?_
  refine mV hTT (.d (.agg ([.v (.bool s1), lr L xs1] ++ [.v (.bool t1), lr L ys1]))) rfl ?_
  refine mC0 (aTCross (⟨s0, xs0, t0, ys0, fun _ _ _ h => h, e0, k0⟩ : IsT ([.v (.bool s0), lr K xs0] ++ [.v (.bool t0), lr K ys0]) K n d) (⟨s1, xs1, t1, ys1, fun _ _ _ h => h, e1, k1⟩ : IsT ([.v (.bool s1), lr L xs1] ++ [.v (.bool t1), lr L ys1]) L m e) (M := ((max K 2 + 1) + (max L 2 + 1))) (by omega) (by omega)) rfl rfl rfl ?_
  refine mV hTT _ rfl ?_
  refine mV hTT _ rfl ?_
  refine mV hTT _ rfl ?_
  refine mV hTT _ rfl ?_
  refine mN hTT (.box 26 ([.v (.bool false), .v (.slice none 0 0)])) rfl rfl rfl ?_
  refine mN hTT (.box 26 ([.v (.bool false), .v (.slice none 0 0)])) rfl rfl rfl ?_
  refine mN hTT (.box 26 ([.v (.bool false), .v (.slice none 0 0)])) rfl rfl rfl ?_
  refine mS hTT 5 (.box 26 (zn ((max K 2 + 1) + (max L 2 + 1)) (Rat.num (mkR n d) * (Rat.den (mkR m e) : Int)))) rfl ?_
  refine mS hTT 6 (.box 26 (zn ((max K 2 + 1) + (max L 2 + 1)) (Rat.num (mkR m e) * (Rat.den (mkR n d) : Int)))) rfl ?_
  refine mS hTT 7 (.box 26 (zn ((max K 2 + 1) + (max L 2 + 1)) ((Rat.den (mkR n d) : Int) * (Rat.den (mkR m e) : Int)))) rfl ?_
  refine mNil ?_
  refine tN ?_
  refine cSeq ?_
  refine cReg ?_
  refine mV hTT (.d (.agg (zn ((max K 2 + 1) + (max L 2 + 1)) (Rat.num (mkR n d) * (Rat.den (mkR m e) : Int))))) rfl ?_
  refine mV hTT (.d (.agg (zn ((max K 2 + 1) + (max L 2 + 1)) (Rat.num (mkR m e) * (Rat.den (mkR n d) : Int))))) rfl ?_
  refine mC0 (aCmp (isz ((max K 2 + 1) + (max L 2 + 1)) (Rat.num (mkR n d) * (Rat.den (mkR m e) : Int))) (isz ((max K 2 + 1) + (max L 2 + 1)) (Rat.num (mkR m e) * (Rat.den (mkR n d) : Int))) (by omega) (by omega)) rfl rfl rfl ?_
  refine mV hTT _ rfl ?_
  refine mNil ?_
  refine tN ?_
  refine cRet ?_
  exact rQ rfl (AV.le.rfl)

set_option maxRecDepth 100000 in
set_option maxHeartbeats 4000000 in
theorem aTMax {a : List Lf} {K M : Nat} {n d : Int} (ha : IsT a K n d) (hM : max K 2 + 1 ≤ M := by decide) (hMM : M ≤ 100000000 := by decide) : ACall Tryz.prog 107 [.agg a, .one (.v (.slice none 0 0))] (.d (.agg (tn M (mkR n d)))) := by
  obtain ⟨s0, xs0, t0, ys0, ha, e0, k0⟩ := ha
  refine ACall.le (dl (DV.g ha) (dl DV.same dl0)) AV.le.rfl ?_
  refine acallN hTT 24 [.cell 4 30] Tryz.func107 rfl rfl rfl rfl rfl ?_
  refine cSeq ?_
  refine cReg ?_
  refine mN hTT (.box 30 ([.v (.bool s0), lr K xs0] ++ [.v (.bool t0), lr K ys0])) rfl rfl rfl ?_
  refine mN hTT (.box 30 ([.v (.bool false), .v (.slice none 0 0), .v (.bool false), .v (.slice none 0 0)])) rfl rfl rfl ?_
  refine mNil ?_
  refine tN ?_
  refine cSeq ?_
  refine cReg ?_
  refine mV hTT (.d (.agg ([.v (.bool s0), lr K xs0] ++ [.v (.bool t0), lr K ys0]))) rfl ?_
  refine mC0 (aTNorm (⟨s0, xs0, t0, ys0, fun _ _ _ h => h, e0, k0⟩ : IsT ([.v (.bool s0), lr K xs0] ++ [.v (.bool t0), lr K ys0]) K n d) (M := (max K 2 + 1)) (by omega) (by omega)) rfl rfl rfl ?_
  refine mN hTT (.box 30 ([.v (.bool false), .v (.slice none 0 0), .v (.bool false), .v (.slice none 0 0)])) rfl rfl rfl ?_
  refine mS hTT 5 (.box 30 (tn (max K 2 + 1) (mkR n d))) rfl ?_
  refine mNil ?_
  refine tN ?_
  refine cSeq ?_
  refine cSeq ?_
  refine cReg ?_
  refine mV hTT _ rfl ?_
  refine mV hTT (.d (.one (.v (.int .i64 0)))) rfl ?_
  refine mV hTT _ rfl ?_
  refine mNil ?_
  refine tN ?_
  refine cBlock ?_
  refine cLoop (ι := Nat) (fun (u : Nat) => ⟨24, [(4, .ptr 4 0), (5, .ptr 5 0), (11, .d (.one (.v (.int .i64 0)))), (12, .d (.one (.v (.int .i64 0))))], [(4, .box 30 ([.v (.bool false), .v (.slice none 0 0), .v (.bool false), .v (.slice none 0 0)])), (5, .box 30 (tn (max K 2 + 1) (mkR n d)))]⟩) (fun (u : Nat) => True) (fun (u : Nat) => u) 0 (trivial) (wk (sl := [(4, .ptr 4 0), (5, .ptr 5 0), (11, .d (.one (.v (.int .i64 0)))), (12, .d (.one (.v (.int .i64 0))))]) (hp := [(4, .box 30 ([.v (.bool false), .v (.slice none 0 0), .v (.bool false), .v (.slice none 0 0)])), (5, .box 30 (tn (max K 2 + 1) (mkR n d)))]) rfl ⟨hs rfl, hs rfl, hs rfl, hs rfl, trivial⟩ ⟨ho rfl, ho rfl, trivial⟩ rfl) ?_
  rintro u hI
  have hT0 : True := hI
  show AW Tryz.prog _ _ ⟨24, [(4, .ptr 4 0), (5, .ptr 5 0), (11, .d (.one (.v (.int .i64 0)))), (12, .d (.one (.v (.int .i64 0))))], [(4, .box 30 ([.v (.bool false), .v (.slice none 0 0), .v (.bool false), .v (.slice none 0 0)])), (5, .box 30 (tn (max K 2 + 1) (mkR n d)))]⟩
  refine cSeq ?_
  refine cReg ?_
  refine mV hTT (.d (.one (.v (.bool false)))) rfl ?_
  refine mNil ?_
  refine tN ?_
  refine cSeq ?_
  refine cF rfl ?_
  refine cExit ?_
  refine tE ?_
  refine tE ?_
  refine bE ?_
  refine tN ?_
  refine cSeq ?_
  refine cReg ?_
  refine mV hTT (.d (.agg (tn (max K 2 + 1) (mkR n d)))) rfl ?_
  refine mS hTT 4 (.box 30 (tn (max K 2 + 1) (mkR n d))) rfl ?_
  refine mNil ?_
  refine tN ?_
  refine cRet ?_
  exact rQ rfl (le_tn (by omega) rfl)

set_option maxRecDepth 100000 in
set_option maxHeartbeats 4000000 in
theorem aPlain {a : List Lf} {K M : Nat} {n d : Int} (ha : IsT a K n d) (hM : max K 2 + 1 ≤ M := by decide) (hMM : M ≤ 100000000 := by decide) : ACall Tryz.prog 82 [.agg a] (.d (.agg (tn M (mkR n d)))) := by
  obtain ⟨s0, xs0, t0, ys0, ha, e0, k0⟩ := ha
  refine ACall.le (dl (DV.g ha) dl0) AV.le.rfl ?_
  refine acallN hTT 5 [.cell 2 30] Tryz.func82 rfl rfl rfl rfl rfl ?_
  refine cSeq ?_
  refine cReg ?_
  refine mN hTT (.box 30 ([.v (.bool s0), lr K xs0] ++ [.v (.bool t0), lr K ys0])) rfl rfl rfl ?_
  refine mN hTT (.box 30 ([.v (.bool false), .v (.slice none 0 0), .v (.bool false), .v (.slice none 0 0)])) rfl rfl rfl ?_
  refine mNil ?_
  refine tN ?_
  refine cSeq ?_
  refine cReg ?_
  refine mV hTT (.d (.agg ([.v (.bool s0), lr K xs0] ++ [.v (.bool t0), lr K ys0]))) rfl ?_
  refine mC0 (aTMax (⟨s0, xs0, t0, ys0, fun _ _ _ h => h, e0, k0⟩ : IsT ([.v (.bool s0), lr K xs0] ++ [.v (.bool t0), lr K ys0]) K n d) (M := (max K 2 + 1)) (by omega) (by omega)) rfl rfl rfl ?_
  refine mS hTT 2 (.box 30 (tn (max K 2 + 1) (mkR n d))) rfl ?_
  refine mNil ?_
  refine tN ?_
  refine cRet ?_
  exact rQ rfl (le_tn (by omega) rfl)

end Go.Proofs.YtcnfblffeghboaaGreat

/-
  PLAIN LAW of chapter 5: sums, products, multiples over rationals and over whole numbers. No condition; nothing of the program.
-/
set_option linter.unusedVariables false
set_option linter.unusedSimpArgs false
namespace Go.Proofs.YtcnfblffeghboaaGreat
open Go.RowKit

theorem rc_add (a b : Nat → Int) (j : Nat) : faddQ (rc a) (rc b) j = rc (fadd a b) j := (Rat.intCast_add _ _).symm
theorem rc_conv (a b : Nat → Int) (j : Nat) : conv (rc a) (rc b) j = rc (conv a b) j := cv_cast _
theorem rc_scl (a : Nat → Int) (y : Int) (j : Nat) : fsclQ (rc a) (mkR y 1) j = rc (fscl a y) j := by
  rw [mkR_int]; exact (Rat.intCast_mul _ _).symm
theorem len_add {a b : Nat → Int} {p q : Nat} (h1 : ∀ j, p ≤ j → fadd a b j = 0) (h2 : ∀ j, q ≤ j → fadd a b j = 0) : dg (faddQ (rc a) (rc b)) p = dg (fadd a b) q := (dg_fun (rc_add a b) p).trans ((dg_cast p).trans (dg_eq h1 h2))
theorem len_conv {a b : Nat → Int} {p q : Nat} (h1 : ∀ j, p ≤ j → conv a b j = 0) (h2 : ∀ j, q ≤ j → conv a b j = 0) : dg (conv (rc a) (rc b)) p = dg (conv a b) q := (dg_fun (rc_conv a b) p).trans ((dg_cast p).trans (dg_eq h1 h2))
theorem len_scl {a : Nat → Int} {y : Int} {p : Nat} : dg (fsclQ (rc a) (mkR y 1)) p = dg (fscl a y) p := (dg_fun (rc_scl a y) p).trans (dg_cast p)
/-- The bounds in PolyAlls. -/
def KP : Nat → Nat
  | 0 => 64
  | i + 1 => (i * 5 + 1 + 1) * (KP i + 64 + 66) + 70
theorem KP_le : ∀ i, i ≤ 4 → KP i ≤ 5000000 := by decide
theorem app_r {e : TypeId} {K n m : Nat} {ns : Nat → Nat} {fs : Nat → Nat → Bool × List Nat} {el2 : Nat → Nat → Lf} (hm : m = n + 1) (h0 : el2 0 0 = arow K (ns n) (fs n) := by rfl) : AO.le (.row e 1 (n + 1) (appEl n (fun p _ => arow K (ns p) (fs p)) el2)) (.row e 1 m (fun p _ => arow K (ns p) (fs p))) := by
  refine app_el hm (fun i hi j hj B w v hv => hv) fun j hj B w v hv => ?_
  obtain rfl : j = 0 := by omega
  rw [h0] at hv; exact hv
theorem isi_cut {n : Nat} {c : Nat → Int} : IsI (irow n c) n (fun i => if i < n then c i else 0) := by
  refine ⟨row_le fun i hi j hj B w v hv => ?_, fun i hi => if_neg (by omega)⟩
  show LfR B w (.v (.int .i64 (if i < n then c i else 0))) v
  rw [if_pos hi]; exact hv
end Go.Proofs.YtcnfblffeghboaaGreat

/-
  PLAIN LAW of chapter 5: the product of polynomials asks for no order, and goes over sums; its leading coefficient. No condition; nothing of the program.
-/
set_option linter.unusedVariables false
set_option linter.unusedSimpArgs false
namespace Go.Proofs.YtcnfblffeghboaaGreat
open Go.RowKit

def sm (f : Nat → Int) : Nat → Int
  | 0 => 0
  | m + 1 => sm f m + f m
theorem sm_congr {f g : Nat → Int} : ∀ {m : Nat}, (∀ i, i < m → f i = g i) → sm f m = sm g m
  | 0, _ => rfl
  | m + 1, h => by show sm f m + f m = sm g m + g m; rw [sm_congr (fun i hi => h i (by omega)), h m (by omega)]
theorem sm_add {f g : Nat → Int} : ∀ m, sm (fun i => f i + g i) m = sm f m + sm g m
  | 0 => rfl
  | m + 1 => by show sm _ m + (f m + g m) = (sm f m + f m) + (sm g m + g m); rw [sm_add m]; omega
theorem sm_mul {f : Nat → Int} {q : Int} : ∀ m, sm (fun i => q * f i) m = q * sm f m
  | 0 => (Int.mul_zero q).symm
  | m + 1 => by show sm _ m + q * f m = q * (sm f m + f m); rw [sm_mul m, Int.mul_add]
theorem sm_mul_r {f : Nat → Int} {q : Int} : ∀ m, sm (fun i => f i * q) m = sm f m * q
  | 0 => (Int.zero_mul q).symm
  | m + 1 => by show sm _ m + f m * q = (sm f m + f m) * q; rw [sm_mul_r m, Int.add_mul]
theorem sm_first {f : Nat → Int} : ∀ m, sm f (m + 1) = f 0 + sm (fun i => f (i + 1)) m
  | 0 => by show (0 : Int) + f 0 = f 0 + 0; omega
  | m + 1 => by
    have h := sm_first (f := f) m
    show sm f (m + 1) + f (m + 1) = f 0 + (sm (fun i => f (i + 1)) m + f (m + 1))
    omega
theorem sm_rev {f : Nat → Int} : ∀ n, sm f (n + 1) = sm (fun i => f (n - i)) (n + 1)
  | 0 => rfl
  | n + 1 => by
    rw [sm_first (f := fun i => f (n + 1 - i)) (n + 1)]
    show sm f (n + 1) + f (n + 1) = f (n + 1) + sm (fun i => f (n + 1 - (i + 1))) (n + 1)
    rw [sm_rev n, Int.add_comm]
    congr 1
    exact sm_congr fun i _ => by congr 1; omega
theorem cv_sm {a b : Nat → Int} {j : Nat} : ∀ {m : Nat}, m ≤ j + 1 → cv a b m j = sm (fun i => a i * b (j - i)) m
  | 0, _ => rfl
  | m + 1, h => by
    show cv a b m j + (if m ≤ j then a m * b (j - m) else 0) = _
    rw [cv_sm (by omega), if_pos (by omega)]; rfl
theorem conv_sm (a b : Nat → Int) (j : Nat) : conv a b j = sm (fun i => a i * b (j - i)) (j + 1) := cv_sm (Nat.le_refl _)
theorem conv_comm (a b : Nat → Int) (j : Nat) : conv a b j = conv b a j := by
  rw [conv_sm, conv_sm, sm_rev]
  exact sm_congr fun i hi => by rw [show j - (j - i) = i by omega, Int.mul_comm]
theorem sm_tri {G : Nat → Nat → Int} : ∀ n, sm (fun i => sm (fun k => G k (i - k)) (i + 1)) (n + 1) = sm (fun k => sm (fun l => G k l) (n - k + 1)) (n + 1)
  | 0 => rfl
  | n + 1 => by
    have e : sm (fun k => sm (fun l => G k l) (n + 1 - k + 1)) (n + 1) = sm (fun k => sm (fun l => G k l) (n - k + 1)) (n + 1) + sm (fun k => G k (n + 1 - k)) (n + 1) := by
      rw [← sm_add]
      refine sm_congr fun k hk => ?_
      rw [show n + 1 - k + 1 = (n - k + 1) + 1 by omega]
      show sm (fun l => G k l) (n - k + 1) + G k (n - k + 1) = _
      rw [show n - k + 1 = n + 1 - k by omega]
    show sm (fun i => sm (fun k => G k (i - k)) (i + 1)) (n + 1) + (sm (fun k => G k (n + 1 - k)) (n + 1) + G (n + 1) (n + 1 - (n + 1))) = sm (fun k => sm (fun l => G k l) (n + 1 - k + 1)) (n + 1) + sm (fun l => G (n + 1) l) (n + 1 - (n + 1) + 1)
    rw [e, sm_tri n, Nat.sub_self]
    show _ = _ + (0 + G (n + 1) 0)
    omega
theorem conv_assoc (a b c : Nat → Int) (j : Nat) : conv (conv a b) c j = conv a (conv b c) j := by
  rw [conv_sm, conv_sm]
  have h1 : sm (fun i => conv a b i * c (j - i)) (j + 1) = sm (fun i => sm (fun k => (fun k l => a k * b l * c (j - (k + l))) k (i - k)) (i + 1)) (j + 1) := by
    refine sm_congr fun i hi => ?_
    rw [conv_sm, ← sm_mul_r]
    exact sm_congr fun k hk => by show _ = a k * b (i - k) * c (j - (k + (i - k))); rw [show k + (i - k) = i by omega]
  have h2 : sm (fun i => a i * conv b c (j - i)) (j + 1) = sm (fun k => sm (fun l => (fun k l => a k * b l * c (j - (k + l))) k l) (j - k + 1)) (j + 1) := by
    refine sm_congr fun k hk => ?_
    rw [conv_sm, ← sm_mul]
    exact sm_congr fun l hl => by show _ = a k * b l * c (j - (k + l)); rw [show j - k - l = j - (k + l) by omega, Int.mul_assoc]
  rw [h1, h2]
  exact sm_tri (G := fun k l => a k * b l * c (j - (k + l))) j
theorem conv_add (a b c : Nat → Int) (j : Nat) : conv a (fadd b c) j = fadd (conv a b) (conv a c) j := by
  show _ = conv a b j + conv a c j
  rw [conv_sm, conv_sm, conv_sm, ← sm_add]
  exact sm_congr fun i _ => by show a i * (b (j - i) + c (j - i)) = _; rw [Int.mul_add]
theorem conv_fun {a b a' b' : Nat → Int} (h : ∀ i, a i = a' i) (k : ∀ i, b i = b' i) (j : Nat) : conv a b j = conv a' b' j := by rw [funext h, funext k]
theorem fadd_fun {a b a' b' : Nat → Int} (h : ∀ i, a i = a' i) (k : ∀ i, b i = b' i) (j : Nat) : fadd a b j = fadd a' b' j := by rw [funext h, funext k]
theorem conv_one (a : Nat → Int) (j : Nat) : conv (lst [1]) a j = a j := by
  rw [conv_sm, sm_first]
  show 1 * a (j - 0) + sm (fun i => lst [1] (i + 1) * a (j - (i + 1))) j = a j
  have : sm (fun i => lst [1] (i + 1) * a (j - (i + 1))) j = sm (fun i => 0 * a (j - (i + 1))) j := sm_congr fun i _ => by rw [lst_z (l := [1]) (i + 1) (by simp)]
  rw [this, sm_mul (q := 0) (f := fun i => a (j - (i + 1)))]; simp
/-- The leading coefficient of a product. -/
theorem conv_top {a b : Nat → Int} {n m : Nat} (ha : ∀ i, n ≤ i → a i = 0) (hb : ∀ i, m ≤ i → b i = 0) (hn : n ≠ 0) (hm : m ≠ 0) : conv a b (n + m - 2) = a (n - 1) * b (m - 1) := by
  obtain ⟨n, rfl⟩ := Nat.exists_eq_succ_of_ne_zero hn
  obtain ⟨m, rfl⟩ := Nat.exists_eq_succ_of_ne_zero hm
  rw [← cv_conv (n := n + 1) ha]
  show cv a b n (n.succ + m.succ - 2) + (if n ≤ n.succ + m.succ - 2 then a n * b (n.succ + m.succ - 2 - n) else 0) = a n * b m
  rw [conv_z (fun i hi _ => by rw [hb (n.succ + m.succ - 2 - i) (by omega), Int.mul_zero]), if_pos (by omega), show n.succ + m.succ - 2 - n = m by omega, Int.zero_add]
theorem dg_conv {a b : Nat → Int} {n m : Nat} (hn : n ≠ 0) (hm : m ≠ 0) (ha : ∀ i, n ≤ i → a i = 0) (hb : ∀ i, m ≤ i → b i = 0) (ha0 : a (n - 1) ≠ 0) (hb0 : b (m - 1) ≠ 0) {p : Nat} (hp : ∀ i, p ≤ i → conv a b i = 0) : dg (conv a b) p = n + m - 1 :=
  dg_uniq dg_or (dg_z hp) (Or.inr (by rw [show n + m - 1 - 1 = n + m - 2 by omega, conv_top ha hb hn hm]; exact Int.mul_ne_zero ha0 hb0)) (fun i hi => conv_beyond ha hb (by omega))
def f3 {α : Type} (x y z : α) : Nat → α := fun p => if p = 0 then x else if p = 1 then y else z
theorem isps3 {K n0 n1 n2 : Nat} {g0 g1 g2 : Nat → Bool × List Nat} {el : Nat → Nat → Lf} (h0 : el 0 0 = arow K n0 g0 := by rfl) (h1 : el 1 0 = arow K n1 g1 := by rfl) (h2 : el 2 0 = arow K n2 g2 := by rfl) : ∀ B w v, LfR B w (.row 1 3 el) v → LfR B w (prows K 3 (f3 n0 n1 n2) (f3 g0 g1 g2)) v := by
  refine row_le fun i hi j hj B w v hv => ?_
  obtain rfl : j = 0 := by omega
  match i, hi with
  | 0, _ => rw [h0] at hv; exact hv
  | 1, _ => rw [h1] at hv; exact hv
  | 2, _ => rw [h2] at hv; exact hv
theorem nil_zn {K : Nat} {z : Int} (h : z = 0) : AV.le (.d (.agg [.v (.bool false), .v (.slice none 0 0)])) (.d (.agg (zn K z))) := by subst h; exact le_agg fun B w cs h => zn_mono (Nat.zero_le _) _ _ _ (nil_ls h)
end Go.Proofs.YtcnfblffeghboaaGreat

/-
  VALUES of polynomials, by the machine.
-/
set_option linter.unusedVariables false
set_option linter.unusedSimpArgs false
namespace Go.Proofs.YtcnfblffeghboaaGreat
open Go.RowKit

/-- Horner's rule over whole numbers. -/
def vlZ (a : Nat → Int) (x y : Int) (top : Nat) : Nat → Int
  | 0 => 0
  | s + 1 => vlZ a x y top s * x + a (top - 1 - s) * y ^ s
def vlQ (a : Nat → Rat) (q : Rat) (top : Nat) : Nat → Rat
  | 0 => 0
  | s + 1 => vlQ a q top s * q + a (top - 1 - s)
theorem leo_nilz {t : TypeId} {K : Nat} : AO.le (.box t [.v (.bool false), .v (.slice none 0 0)]) (.box t (zn K 0)) := leo_box fun B w cs h => zn_mono (Nat.zero_le _) _ _ _ (nil_ls h)
set_option maxRecDepth 100000 in
set_option maxHeartbeats 4000000 in
theorem aPValue {a : Lf} {b e : List Lf} {K L1 L2 M n D T : Nat} {c : Nat → Int} {x y : Int} (ha : IsP a K n c) (hb : IsZ b L1 x) (hd : IsZ e L2 y) (hn : n ≤ D) (hDD : D ≤ 1000 := by decide) (hT : K + L1 + L2 + 5 ≤ T := by decide) (hM : (D + 1) * T ≤ M := by decide) (hMM : M ≤ 100000000 := by decide) : ACall Tryz.prog 84 [.one a, .agg b, .agg e] (.d (.agg (zn M (vlZ c x y n n)))) := by
  obtain ⟨⟨fa, ha, ea⟩, za⟩ := ha
  obtain ⟨s1, xs1, hb, ex⟩ := hb
  obtain ⟨s2, xs2, hd, ey⟩ := hd
  refine ACall.le (dl (DV.l ha) (dl (DV.z hb) (dl (DV.z hd) dl0))) AV.le.rfl ?_
  obtain ⟨R, hR0, hR1, hRM⟩ : ∃ R : Nat → Nat, 2 ≤ R 0 ∧ (∀ i, R i + T ≤ R (i + 1)) ∧ ∀ i, i ≤ D → R i ≤ M := ⟨fun i => (i + 1) * T, by show 2 ≤ (0 + 1) * T; omega, fun i => by show (i + 1) * T + T ≤ (i + 1 + 1) * T; rw [Nat.succ_mul (i + 1)]; exact Nat.le_refl _, fun i hi => Nat.le_trans (Nat.mul_le_mul_right _ (by omega)) hM⟩
  have hT1 := hRM 0 (Nat.zero_le _)
  have hTM : T ≤ M := Nat.le_trans (Nat.le_mul_of_pos_left T (by omega)) hM
  refine acallN hTT 32 [.cell 6 26] Tryz.func84 rfl rfl rfl rfl rfl ?_
  refine cSeq ?_
  refine cReg ?_
  refine mN hTT (.box 26 ([.v (.bool s1), lr L1 xs1])) rfl rfl rfl ?_
  refine mN hTT (.box 26 ([.v (.bool s2), lr L2 xs2])) rfl rfl rfl ?_
  refine mN hTT (.box 26 ([.v (.bool false), .v (.slice none 0 0)])) rfl rfl rfl ?_
  refine mNil ?_
  refine tN ?_
  refine cSeq ?_
  refine cReg ?_
  refine mN hTT (.box 26 ([.v (.bool false), .v (.slice none 0 0)])) rfl rfl rfl ?_
  refine mNil ?_
  refine tN ?_
  refine cSeq ?_
  refine cReg ?_
  refine mC0 (aOf (n := 1) (by decide) (by decide)) rfl rfl rfl ?_
  refine mN hTT (.box 26 ([.v (.bool false), .v (.slice none 0 0)])) rfl rfl rfl ?_
  refine mS hTT 8 (.box 26 (zn 2 1)) rfl ?_
  refine mNil ?_
  refine tN ?_
  refine cSeq ?_
  refine cSeq ?_
  refine cReg ?_
  refine mV hTT _ rfl ?_
  refine mV hTT (.d (.one (.v (.int .i64 (n : Int))))) rfl ?_
  refine mV hTT (.d (.one (.v (.int .i64 ((n : Int) - 1))))) (evi (wr64 (by omega) (by omega))) ?_
  refine mV hTT _ rfl ?_
  refine mNil ?_
  refine tN ?_
  refine cBlock ?_
  refine cLoop (ι := Nat) (fun (s : Nat) => ⟨32, [(0, .d (.one (.row 2 n (ael K fa)))), (4, .ptr 4 0), (5, .ptr 5 0), (6, .ptr 6 0), (7, .ptr 7 0), (8, .ptr 8 0), (9, .d (.one (.v (.int .i64 ((n : Int) - 1 - (s : Int))))))], [(4, .box 26 ([.v (.bool s1), lr L1 xs1])), (5, .box 26 ([.v (.bool s2), lr L2 xs2])), (6, .box 26 ([.v (.bool false), .v (.slice none 0 0)])), (7, .box 26 (zn (R s) (vlZ c x y n s))), (8, .box 26 (zn (R s) (y ^ s)))]⟩) (fun (s : Nat) => s ≤ n) (fun (s : Nat) => n - s) 0 (Nat.zero_le _) (wk (sl := [(0, .d (.one (.row 2 n (ael K fa)))), (4, .ptr 4 0), (5, .ptr 5 0), (6, .ptr 6 0), (7, .ptr 7 0), (8, .ptr 8 0), (9, .d (.one (.v (.int .i64 ((n : Int) - 1 - ((0 : Nat) : Int))))))]) (hp := [(4, .box 26 ([.v (.bool s1), lr L1 xs1])), (5, .box 26 ([.v (.bool s2), lr L2 xs2])), (6, .box 26 ([.v (.bool false), .v (.slice none 0 0)])), (7, .box 26 (zn (R 0) (vlZ c x y n 0))), (8, .box 26 (zn (R 0) (y ^ 0)))]) rfl ⟨hs rfl, hs rfl, hs rfl, hs rfl, hs rfl, hs rfl, hs' rfl (le_int (by omega)), trivial⟩ ⟨ho rfl, ho rfl, ho rfl, ho' rfl (leo_nilz), ho' rfl (leo_zn (by omega) (Int.pow_zero y).symm), trivial⟩ rfl) ?_
  rintro s hI
  have hi : s ≤ n := hI
  show AW Tryz.prog _ _ ⟨32, [(0, .d (.one (.row 2 n (ael K fa)))), (4, .ptr 4 0), (5, .ptr 5 0), (6, .ptr 6 0), (7, .ptr 7 0), (8, .ptr 8 0), (9, .d (.one (.v (.int .i64 ((n : Int) - 1 - (s : Int))))))], [(4, .box 26 ([.v (.bool s1), lr L1 xs1])), (5, .box 26 ([.v (.bool s2), lr L2 xs2])), (6, .box 26 ([.v (.bool false), .v (.slice none 0 0)])), (7, .box 26 (zn (R s) (vlZ c x y n s))), (8, .box 26 (zn (R s) (y ^ s)))]⟩
  refine cSeq ?_
  refine cSeq ?_
  refine cReg ?_
  refine mV hTT _ rfl ?_
  refine mV hTT (.d (.one (.v (.bool (decide (((n : Int) - 1 - (s : Int)) ≥ 0)))))) rfl ?_
  refine mNil ?_
  refine tN ?_
  refine cCond rfl (fun hc1 => ?_) (fun hc1 => ?_)
  · skip
    refine cSkip ?_
    refine tN ?_
    refine cSeq ?_
    refine cBlock ?_
    refine cSeq ?_
    have hsd : s < n := by have h0 := of_decide_eq_true hc1; omega
    have hR := hR1 s
    have hRm := hRM (s + 1) (by omega)
    refine cView 9 (.d (.one (.v (.int .i64 ((n - 1 - s : Nat) : Int))))) rfl (le_int (by omega)) ?_
    refine cDrawK hTT 10 (by kernel_rfl) (by kernel_rfl) (by kernel_rfl) ?_
    refine .cons (OpS.V (.d (.agg (zn (R s) (vlZ c x y n s)))) rfl) ?_
    refine .cons (OpS.V (.d (.agg ([.v (.bool s1), lr L1 xs1]))) rfl) ?_
    refine .cons (OpS.C0 (aMul (isz (R s) (vlZ c x y n s)) ⟨s1, xs1, fun _ _ _ h => h, ex⟩ (M := ((R s) + L1)) (by omega) (by omega) (by omega)) rfl rfl rfl) ?_
    refine .cons (OpS.V _ rfl) ?_
    refine .cons (OpS.V _ rfl) ?_
    refine .cons (OpS.V (.d (.one (.at 2 ((ael K fa) (n - 1 - s))))) (ixR (el := (ael K fa)) (z := ((n - 1 - s : Nat) : Int)) (n := n) rfl rfl rfl rfl rfl rfl (by omega) (by omega))) ?_
    refine .cons (OpS.V (.d (.agg ([.v (.bool ((fa (n - 1 - s)).1)), lr K ((fa (n - 1 - s)).2)]))) rfl) ?_
    refine .cons (OpS.V (.d (.agg (zn (R s) (y ^ s)))) rfl) ?_
    refine .cons (OpS.C0 (aMul ⟨_, _, fun _ _ _ h => h, ea (n - 1 - s) (by omega)⟩ (isz (R s) (y ^ s)) (M := (K + (R s))) (by omega) (by omega) (by omega)) rfl rfl rfl) ?_
    refine .cons (OpS.C0 (aAdd (isz ((R s) + L1) ((vlZ c x y n s) * x)) (isz (K + (R s)) ((c (n - 1 - s)) * (y ^ s))) (M := (max ((R s) + L1) (K + (R s)) + 1)) (by omega) (by omega) (by omega)) rfl rfl rfl) ?_
    refine .nil ?_
    refine mS hTT 7 (.box 26 (zn (max ((R s) + L1) (K + (R s)) + 1) (((vlZ c x y n s) * x) + ((c (n - 1 - s)) * (y ^ s))))) rfl ?_
    refine mNil ?_
    refine tN ?_
    refine cReg ?_
    refine mV hTT (.d (.agg (zn (R s) (y ^ s)))) rfl ?_
    refine mV hTT (.d (.agg ([.v (.bool s2), lr L2 xs2]))) rfl ?_
    refine mC0 (aMul (isz (R s) (y ^ s)) ⟨s2, xs2, fun _ _ _ h => h, ey⟩ (M := ((R s) + L2)) (by omega) (by omega) (by omega)) rfl rfl rfl ?_
    refine mS hTT 8 (.box 26 (zn ((R s) + L2) ((y ^ s) * y))) rfl ?_
    refine mNil ?_
    refine bN ?_
    refine tN ?_
    refine cReg ?_
    refine mV hTT _ rfl ?_
    refine mV hTT (.d (.one (.v (.int .i64 (IntKind.i64.wrap (((n - 1 - s : Nat) : Int) - 1)))))) rfl ?_
    refine mV hTT _ rfl ?_
    refine mNil ?_
    exact ⟨(s + 1), by omega, by omega, wk (sl := [(0, .d (.one (.row 2 n (ael K fa)))), (4, .ptr 4 0), (5, .ptr 5 0), (6, .ptr 6 0), (7, .ptr 7 0), (8, .ptr 8 0), (9, .d (.one (.v (.int .i64 ((n : Int) - 1 - ((s + 1) : Int))))))]) (hp := [(4, .box 26 ([.v (.bool s1), lr L1 xs1])), (5, .box 26 ([.v (.bool s2), lr L2 xs2])), (6, .box 26 ([.v (.bool false), .v (.slice none 0 0)])), (7, .box 26 (zn (R (s + 1)) (vlZ c x y n (s + 1)))), (8, .box 26 (zn (R (s + 1)) (y ^ (s + 1))))]) rfl ⟨hs rfl, hs rfl, hs rfl, hs rfl, hs rfl, hs rfl, hs' rfl (le_int ((wr64 (by omega) (by omega)).trans (by omega))), trivial⟩ ⟨ho rfl, ho rfl, ho rfl, ho' rfl (leo_zn (by omega) rfl), ho' rfl (leo_zn (by omega) (Int.pow_succ y s).symm), trivial⟩ rfl⟩
  · skip
    refine cExit ?_
    refine tE ?_
    refine tE ?_
    refine bE ?_
    refine tN ?_
    refine cSeq ?_
    refine cReg ?_
    refine mV hTT (.d (.agg (zn (R s) (vlZ c x y n s)))) rfl ?_
    refine mS hTT 6 (.box 26 (zn (R s) (vlZ c x y n s))) rfl ?_
    refine mNil ?_
    refine tN ?_
    refine cRet ?_
    have hie : n = s := by have h0 := of_decide_eq_false hc1; omega
    subst hie
    exact rQ rfl (le_zn (hRM _ hn) rfl)

set_option maxRecDepth 100000 in
set_option maxHeartbeats 4000000 in
theorem aPow {a : List Lf} {K M : Nat} {x k : Int} (ha : IsZ a K x) (hk1 : -9223372036854775808 ≤ k) (hk : k ≤ 256) (hM : 2 + k.toNat * K ≤ M) (hMM : M ≤ 100000000) : ACall Tryz.prog 36 [.agg a, .one (.v (.int .i64 k))] (.d (.agg (zn M (x ^ k.toNat)))) := by
  obtain ⟨sa, xa, ha, ea⟩ := ha
  refine ACall.le (dl (DV.z ha) (dl DV.same dl0)) AV.le.rfl ?_
  refine acallN hTT 17 [.cell 4 26] Tryz.func36 rfl rfl rfl rfl rfl ?_
  refine cSeq ?_
  refine cReg ?_
  refine mN hTT (.box 26 ([.v (.bool sa), lr K xa])) rfl rfl rfl ?_
  refine mN hTT (.box 26 ([.v (.bool false), .v (.slice none 0 0)])) rfl rfl rfl ?_
  refine mNil ?_
  refine tN ?_
  refine cSeq ?_
  refine cReg ?_
  refine mC0 (aOf (n := 1) (by decide) (by decide)) rfl rfl rfl ?_
  refine mN hTT (.box 26 ([.v (.bool false), .v (.slice none 0 0)])) rfl rfl rfl ?_
  refine mS hTT 5 (.box 26 (zn 2 1)) rfl ?_
  refine mNil ?_
  refine tN ?_
  refine cSeq ?_
  refine cSeq ?_
  refine cReg ?_
  refine mV hTT _ rfl ?_
  refine mV hTT (.d (.one (.v (.int .i64 k)))) (evi (by rw [if_neg (by decide)]; split <;> omega)) ?_
  refine mV hTT (.d (.one (.v (.int .i64 ((k.toNat : Nat) : Int))))) (evi (by rw [if_pos rfl]; split <;> omega)) ?_
  refine mV hTT _ rfl ?_
  refine mNil ?_
  refine tN ?_
  refine cBlock ?_
  refine cLoop (ι := Nat) (fun (i : Nat) => ⟨17, [(2, .ptr 2 0), (4, .ptr 4 0), (5, .ptr 5 0), (9, .d (.one (.v (.int .i64 ((k.toNat : Nat) : Int))))), (10, .d (.one (.v (.int .i64 ((i : Nat) : Int)))))], [(2, .box 26 ([.v (.bool sa), lr K xa])), (4, .box 26 ([.v (.bool false), .v (.slice none 0 0)])), (5, .box 26 (zn (2 + i * K) (x ^ i)))]⟩) (fun (i : Nat) => i ≤ k.toNat) (fun (i : Nat) => k.toNat - i) 0 (Nat.zero_le _) (wk (sl := [(2, .ptr 2 0), (4, .ptr 4 0), (5, .ptr 5 0), (9, .d (.one (.v (.int .i64 ((k.toNat : Nat) : Int))))), (10, .d (.one (.v (.int .i64 ((0 : Nat) : Int)))))]) (hp := [(2, .box 26 ([.v (.bool sa), lr K xa])), (4, .box 26 ([.v (.bool false), .v (.slice none 0 0)])), (5, .box 26 (zn (2 + 0 * K) (x ^ 0)))]) rfl ⟨hs rfl, hs rfl, hs rfl, hs rfl, hs rfl, trivial⟩ ⟨ho rfl, ho rfl, ho' rfl (leo_zn (by omega) (Int.pow_zero x).symm), trivial⟩ rfl) ?_
  rintro i hI
  have hi : i ≤ k.toNat := hI
  show AW Tryz.prog _ _ ⟨17, [(2, .ptr 2 0), (4, .ptr 4 0), (5, .ptr 5 0), (9, .d (.one (.v (.int .i64 ((k.toNat : Nat) : Int))))), (10, .d (.one (.v (.int .i64 ((i : Nat) : Int)))))], [(2, .box 26 ([.v (.bool sa), lr K xa])), (4, .box 26 ([.v (.bool false), .v (.slice none 0 0)])), (5, .box 26 (zn (2 + i * K) (x ^ i)))]⟩
  refine cSeq ?_
  refine cReg ?_
  refine mV hTT (.d (.one (.v (.bool (decide (((i : Nat) : Int) < ((k.toNat : Nat) : Int))))))) rfl ?_
  refine mNil ?_
  refine tN ?_
  refine cSeq ?_
  refine cCond rfl (fun hc1 => ?_) (fun hc1 => ?_)
  · skip
    refine cSkip ?_
    refine tN ?_
    refine cSeq ?_
    refine cBlock ?_
    have hik : i < k.toNat := by have h0 := of_decide_eq_true hc1; omega
    have e1 : (i + 1) * K = i * K + K := Nat.succ_mul i K
    have e2 : (i + 1) * K ≤ k.toNat * K := Nat.mul_le_mul_right K hik
    refine cReg ?_
    refine mV hTT (.d (.agg (zn (2 + i * K) (x ^ i)))) rfl ?_
    refine mV hTT (.d (.agg ([.v (.bool sa), lr K xa]))) rfl ?_
    refine mC0 (aMul (isz (2 + i * K) (x ^ i)) ⟨sa, xa, fun _ _ _ h => h, ea⟩ (M := ((2 + i * K) + K)) (by omega) (by omega) (by omega)) rfl rfl rfl ?_
    refine mS hTT 5 (.box 26 (zn ((2 + i * K) + K) ((x ^ i) * x))) rfl ?_
    refine mNil ?_
    refine bN ?_
    refine tN ?_
    refine cReg ?_
    refine mV hTT (.d (.one (.v (.int .i64 (IntKind.i64.wrap (((i : Nat) : Int) + 1)))))) rfl ?_
    refine mV hTT _ rfl ?_
    refine mNil ?_
    exact ⟨(i + 1), by omega, by omega, wk (sl := [(2, .ptr 2 0), (4, .ptr 4 0), (5, .ptr 5 0), (9, .d (.one (.v (.int .i64 ((k.toNat : Nat) : Int))))), (10, .d (.one (.v (.int .i64 (((i + 1) : Nat) : Int)))))]) (hp := [(2, .box 26 ([.v (.bool sa), lr K xa])), (4, .box 26 ([.v (.bool false), .v (.slice none 0 0)])), (5, .box 26 (zn (2 + (i + 1) * K) (x ^ (i + 1))))]) rfl ⟨hs rfl, hs rfl, hs rfl, hs rfl, hs' rfl (le_int (inc64 (by omega))), trivial⟩ ⟨ho rfl, ho rfl, ho' rfl (leo_zn (by omega) (Int.pow_succ x i).symm), trivial⟩ rfl⟩
  · skip
    refine cExit ?_
    refine tE ?_
    refine tE ?_
    refine bE ?_
    refine tN ?_
    refine cSeq ?_
    refine cReg ?_
    refine mV hTT (.d (.agg (zn (2 + i * K) (x ^ i)))) rfl ?_
    refine mS hTT 4 (.box 26 (zn (2 + i * K) (x ^ i))) rfl ?_
    refine mNil ?_
    refine tN ?_
    refine cRet ?_
    have hie : k.toNat = i := by have h0 := of_decide_eq_false hc1; omega
    subst hie
    exact rQ rfl (le_zn hM rfl)

end Go.Proofs.YtcnfblffeghboaaGreat

/-
  POLYNOMIALS, by the machine (6): Same, Lead, Deg.
-/
set_option linter.unusedVariables false
set_option linter.unusedSimpArgs false
namespace Go.Proofs.YtcnfblffeghboaaGreat
open Go.RowKit

set_option maxRecDepth 100000 in
set_option maxHeartbeats 4000000 in
theorem aDeg {K n : Nat} {c : Nat → Int} (hn : n ≤ 1000000) : ACall Tryz.prog 33 [.one (prow K n c)] (.d (.one (.v (.int .i64 ((n : Int) - 1))))) := by
  refine acallN hTT 6 [.tmp 2] Tryz.func33 rfl rfl rfl rfl rfl ?_
  refine cSeq ?_
  refine cReg ?_
  refine mV hTT _ rfl ?_
  refine mNil ?_
  refine tN ?_
  refine cSeq ?_
  refine cReg ?_
  refine mV hTT _ rfl ?_
  refine mV hTT (.d (.one (.v (.int .i64 (n : Int))))) rfl ?_
  refine mV hTT (.d (.one (.v (.int .i64 ((n : Int) - 1))))) (evi (wr64 (by omega) (by omega))) ?_
  refine mV hTT _ rfl ?_
  refine mNil ?_
  refine tN ?_
  refine cRet ?_
  exact rQ rfl (AV.le.rfl)

end Go.Proofs.YtcnfblffeghboaaGreat

/-
  SIGNS of polynomials, by the machine.
-/
set_option linter.unusedVariables false
set_option linter.unusedSimpArgs false
namespace Go.Proofs.YtcnfblffeghboaaGreat
open Go.RowKit

theorem cmpZ_sgn (z : Int) : cmpZ z 0 = sgn z := by unfold cmpZ sgn; (repeat' split) <;> omega
theorem sgn_bd (z : Int) : -1 ≤ sgn z ∧ sgn z ≤ 1 := by unfold sgn; (repeat' split) <;> omega
end Go.Proofs.YtcnfblffeghboaaGreat

/-
  VALUES of the plain reckoning's polynomials, by the machine.
-/
set_option linter.unusedVariables false
set_option linter.unusedSimpArgs false
namespace Go.Proofs.YtcnfblffeghboaaGreat
open Go.RowKit

theorem leo_nilr {t : TypeId} {K : Nat} : AO.le (.box t [.v (.slice none 0 0), .v (.bool false)]) (.box t (rn K 0)) := leo_box fun B w cs h => rn_mono (Nat.zero_le _) _ _ _ (nil_rs h)
end Go.Proofs.YtcnfblffeghboaaGreat

/-
  PLAIN LAW of chapter 5: Horner's rule gives the value; values of products. No condition; nothing of the program.
-/
set_option linter.unusedVariables false
set_option linter.unusedSimpArgs false
namespace Go.Proofs.YtcnfblffeghboaaGreat
open Go.RowKit

theorem pow_ne_int {y : Int} (h : y ≠ 0) : ∀ s : Nat, ¬ y ^ s = 0
  | 0 => by rw [Int.pow_zero]; decide
  | s + 1 => by rw [Int.pow_succ]; exact Int.mul_ne_zero (pow_ne_int h s) h
theorem num_den (q : Rat) : q * ((q.den : Int) : Rat) = (q.num : Rat) := by
  have h := mkR_div (x := q.num) (y := (q.den : Int)) (den_ne q)
  rw [mkR_ne (den_ne q), Rat.num_divInt_den] at h
  exact h
theorem vl_hv {a : Nat → Int} {q : Rat} {top : Nat} : ∀ s, ((vlZ a q.num (q.den : Int) top s : Int) : Rat) * ((q.den : Int) : Rat) = ((q.den : Int) : Rat) ^ s * vlQ (rc a) q top s
  | 0 => by show ((0 : Int) : Rat) * _ = _ * (0 : Rat); rw [Rat.mul_zero]; exact Rat.zero_mul _
  | s + 1 => by
    have h0 := vl_hv (a := a) (q := q) (top := top) s
    have hq := num_den q
    show ((vlZ a q.num (q.den : Int) top s * q.num + a (top - 1 - s) * (q.den : Int) ^ s : Int) : Rat) * ((q.den : Int) : Rat) = ((q.den : Int) : Rat) ^ (s + 1) * (vlQ (rc a) q top s * q + rc a (top - 1 - s))
    have hrc : rc a (top - 1 - s) = ((a (top - 1 - s) : Int) : Rat) := rfl
    rw [hrc, Rat.intCast_add, Rat.intCast_mul, Rat.intCast_mul, cast_pow, Rat.pow_succ]
    grind
/-- The value, as the program reckons it. -/
theorem vl_end {a : Nat → Int} {q : Rat} (n : Nat) : Rat.divInt (vlZ a q.num (q.den : Int) n n) ((q.den : Int) ^ (n - 1)) = vlQ (rc a) q n n := by
  have hd : (q.den : Int) ≠ 0 := den_ne q
  have hy : ¬ (q.den : Int) ^ (n - 1) = 0 := pow_ne_int hd _
  have h1 := mkR_div (x := vlZ a q.num (q.den : Int) n n) hy
  rw [mkR_ne hy] at h1
  have h2 := vl_hv (a := a) (q := q) (top := n) n
  have hdr : ((q.den : Int) : Rat) ≠ 0 := fun e => hd (Rat.intCast_eq_zero_iff.1 e)
  have hpr : ((q.den : Int) : Rat) ^ (n - 1) ≠ 0 := pow_ne hdr _
  rw [cast_pow] at h1
  cases n with
  | zero =>
    rw [show (0 : Nat) - 1 = 0 from rfl, Rat.pow_zero, Rat.mul_one] at h1
    rw [show (0 : Nat) - 1 = 0 from rfl]
    rw [h1]; rfl
  | succ s =>
    rw [Nat.add_sub_cancel] at h1 hpr ⊢
    rw [Rat.pow_succ] at h2
    grind
end Go.Proofs.YtcnfblffeghboaaGreat

/-
  PLAIN LAW of chapter 5: values of polynomials; polynomials that have one value everywhere are one. No condition; nothing of the program.
-/
set_option linter.unusedVariables false
set_option linter.unusedSimpArgs false
namespace Go.Proofs.YtcnfblffeghboaaGreat
open Go.RowKit

/-- The value: the sum of the terms. -/
def pe (a : Nat → Rat) (q : Rat) : Nat → Rat
  | 0 => 0
  | n + 1 => pe a q n + a n * q ^ n
theorem pe_hor {a : Nat → Rat} {q : Rat} {top : Nat} : ∀ s, s ≤ top → pe a q top = pe a q (top - s) + q ^ (top - s) * vlQ a q top s
  | 0, _ => by show _ = pe a q (top - 0) + _ * (0 : Rat); rw [Nat.sub_zero, Rat.mul_zero, Rat.add_zero]
  | s + 1, h => by
    rw [pe_hor s (by omega)]
    have e : top - s = (top - (s + 1)) + 1 := by omega
    show _ = _ + _ * (vlQ a q top s * q + a (top - 1 - s))
    rw [e, show top - 1 - s = top - (s + 1) by omega]
    show pe a q (top - (s + 1)) + a (top - (s + 1)) * q ^ (top - (s + 1)) + _ = _
    rw [Rat.pow_succ]
    grind
theorem pe_vl (a : Nat → Rat) (q : Rat) (n : Nat) : vlQ a q n n = pe a q n := by
  have h := pe_hor (a := a) (q := q) (top := n) n (Nat.le_refl _)
  rw [Nat.sub_self] at h
  rw [h]
  show _ = (0 : Rat) + _
  rw [Rat.pow_zero, Rat.one_mul, Rat.zero_add]
theorem pe_congr {a b : Nat → Rat} {q : Rat} : ∀ {n : Nat}, (∀ i, i < n → a i = b i) → pe a q n = pe b q n
  | 0, _ => rfl
  | n + 1, h => by show _ + _ = _ + _; rw [pe_congr (n := n) fun i hi => h i (by omega), h n (by omega)]
theorem pe_more {a : Nat → Rat} {q : Rat} {n : Nat} (h : ∀ i, n ≤ i → a i = 0) : ∀ d, pe a q (n + d) = pe a q n
  | 0 => rfl
  | d + 1 => by show pe a q (n + d) + a (n + d) * _ = _; rw [pe_more h d, h (n + d) (by omega), Rat.zero_mul, Rat.add_zero]
theorem pe_eq {a : Nat → Rat} {q : Rat} {n m : Nat} (h : ∀ i, n ≤ i → a i = 0) (k : ∀ i, m ≤ i → a i = 0) : pe a q n = pe a q m := by
  rcases Nat.le_total n m with e | e
  · have := pe_more (q := q) h (m - n); rw [show n + (m - n) = m by omega] at this; exact this.symm
  · have := pe_more (q := q) k (n - m); rw [show m + (n - m) = n by omega] at this; exact this
theorem pe_add {a b : Nat → Rat} {q : Rat} : ∀ n, pe (faddQ a b) q n = pe a q n + pe b q n
  | 0 => by show (0 : Rat) = 0 + 0; grind
  | n + 1 => by show pe (faddQ a b) q n + (a n + b n) * q ^ n = (pe a q n + _) + (pe b q n + _); rw [pe_add n]; grind
theorem pe_scl {a : Nat → Rat} {q r : Rat} : ∀ n, pe (fsclQ a r) q n = pe a q n * r
  | 0 => by show (0 : Rat) = 0 * r; grind
  | n + 1 => by show pe (fsclQ a r) q n + (a n * r) * q ^ n = (pe a q n + _) * r; rw [pe_scl n]; grind
theorem pe_zero {a : Nat → Rat} {q : Rat} : ∀ {n : Nat}, (∀ i, i < n → a i = 0) → pe a q n = 0
  | 0, _ => rfl
  | n + 1, h => by show _ + _ = _; rw [pe_zero (n := n) fun i hi => h i (by omega), h n (by omega), Rat.zero_mul, Rat.add_zero]
theorem pow_addQ (q : Rat) (k : Nat) : ∀ m : Nat, q ^ (k + m) = q ^ k * q ^ m
  | 0 => by rw [Nat.add_zero, Rat.pow_zero, Rat.mul_one]
  | m + 1 => by rw [← Nat.add_assoc, Rat.pow_succ, Rat.pow_succ, pow_addQ q k m, Rat.mul_assoc]
theorem pe_shift {b : Nat → Rat} {q x : Rat} {k : Nat} : ∀ m, pe (fun j => if k ≤ j then x * b (j - k) else 0) q (k + m) = x * q ^ k * pe b q m
  | 0 => by
    show _ = x * q ^ k * (0 : Rat)
    rw [Rat.mul_zero]
    exact pe_zero fun i hi => if_neg (by omega)
  | m + 1 => by
    show pe _ q (k + m) + (if k ≤ k + m then x * b (k + m - k) else 0) * q ^ (k + m) = x * q ^ k * (pe b q m + b m * q ^ m)
    rw [pe_shift m, if_pos (by omega), Nat.add_sub_cancel_left, pow_addQ]
    grind
theorem pe_cv {a b : Nat → Rat} {q : Rat} {m : Nat} (hb : ∀ i, m ≤ i → b i = 0) : ∀ k, pe (cv a b k) q (k + m) = pe a q k * pe b q m
  | 0 => by
    show _ = (0 : Rat) * _
    rw [Rat.zero_mul]
    exact pe_zero fun i hi => rfl
  | k + 1 => by
    have h1 : pe (cv a b (k + 1)) q (k + 1 + m) = pe (faddQ (cv a b k) (fun j => if k ≤ j then a k * b (j - k) else 0)) q (k + 1 + m) := pe_congr fun i hi => rfl
    rw [h1, pe_add, show k + 1 + m = (k + m) + 1 by omega]
    have h2 : pe (cv a b k) q (k + m + 1) = pe (cv a b k) q (k + m) := pe_more (n := k + m) (fun i hi => conv_zQ fun j hj hji => by rw [hb (i - j) (by omega), Rat.mul_zero]) 1
    rw [h2, pe_cv hb k]
    have h3 := pe_shift (b := b) (q := q) (x := a k) (k := k) (m + 1)
    rw [← Nat.add_assoc] at h3
    rw [h3]
    show _ = (pe a q k + a k * q ^ k) * _
    have h4 : pe b q (m + 1) = pe b q m := pe_more hb 1
    rw [h4]
    grind
/-- The product's value. -/
theorem pe_conv {a b : Nat → Rat} {q : Rat} {n m : Nat} (ha : ∀ i, n ≤ i → a i = 0) (hb : ∀ i, m ≤ i → b i = 0) : pe (conv a b) q (n + m) = pe a q n * pe b q m := by
  rw [← pe_cv hb n]
  exact pe_congr fun i hi => (cv_convQ ha).symm
/-- The value of a row of whole numbers. -/
def pz (c : Nat → Int) (q : Rat) (n : Nat) : Rat := pe (rc c) q n
theorem pz_eq {c : Nat → Int} {q : Rat} {n m : Nat} (h : ∀ i, n ≤ i → c i = 0) (k : ∀ i, m ≤ i → c i = 0) : pz c q n = pz c q m := pe_eq (rc_z h) (rc_z k)
theorem pz_conv {a b : Nat → Int} {q : Rat} {n m p : Nat} (ha : ∀ i, n ≤ i → a i = 0) (hb : ∀ i, m ≤ i → b i = 0) (hp : ∀ i, p ≤ i → conv a b i = 0) : pz (conv a b) q p = pz a q n * pz b q m := by
  rw [pz_eq hp (conv_z0 ha hb)]
  show pe _ q _ = _
  rw [pe_congr (b := conv (rc a) (rc b)) fun i _ => (rc_conv a b i).symm]
  exact pe_conv (rc_z ha) (rc_z hb)
theorem pz_scl {a : Nat → Int} {q : Rat} {n : Nat} (y : Int) : pz (fscl a y) q n = pz a q n * (y : Rat) := by
  show pe _ q _ = _
  rw [pe_congr (a := rc (fscl a y)) (b := fsclQ (rc a) (y : Rat)) fun i _ => Rat.intCast_mul _ _]
  exact pe_scl n
theorem pz_vl (c : Nat → Int) (q : Rat) (n : Nat) : vlQ (rc c) q n n = pz c q n := pe_vl _ _ _

/-! ### Moved -/
theorem pe_hv {a : Nat → Rat} {r q : Rat} {top : Nat} : ∀ s, pe (hvQ a r top s) q s = vlQ a (q + r) top s
  | 0 => rfl
  | s + 1 => by
    show pe (faddQ (conv (hvQ a r top s) (linQ r (((1 : Int) : Int) : Rat))) (oneQ (a (top - 1 - s)))) q (s + 1) = vlQ a (q + r) top s * (q + r) + a (top - 1 - s)
    rw [pe_add]
    have h1 : pe (conv (hvQ a r top s) (linQ r (((1 : Int) : Int) : Rat))) q (s + 1) = pe (conv (hvQ a r top s) (linQ r (((1 : Int) : Int) : Rat))) q (s + 2) := pe_eq (fun i hi => conv_beyondQ (hvQ_z s) linQ_z (by omega)) (fun i hi => conv_beyondQ (hvQ_z s) linQ_z (by omega))
    rw [h1, pe_conv (hvQ_z s) linQ_z, pe_hv s]
    have h2 : pe (linQ r (((1 : Int) : Int) : Rat)) q 2 = q + r := by
      show (0 : Rat) + linQ r _ 0 * q ^ 0 + linQ r _ 1 * q ^ 1 = _
      rw [show linQ r (((1 : Int) : Int) : Rat) 0 = r from rfl, show linQ r (((1 : Int) : Int) : Rat) 1 = 1 from rfl, Rat.pow_zero, Rat.pow_succ, Rat.pow_zero]
      grind
    have h3 : pe (oneQ (a (top - 1 - s))) q (s + 1) = a (top - 1 - s) := by
      rw [pe_eq (m := 1) (fun i hi => oneQ_z i (by omega)) oneQ_z]
      show (0 : Rat) + a (top - 1 - s) * q ^ 0 = _
      rw [Rat.pow_zero]; grind
    rw [h2, h3]
/-- One that is moved has its values at the place moved from, but for a power of the denominator. -/
theorem pz_mv {a : Nat → Int} {x y : Int} {q : Rat} {n : Nat} (hy : ¬ y = 0) : pz (mvZ a x y n n) q n = (y : Rat) ^ (n - 1) * pz a (q + mkR x y) n := by
  have h1 : pz (mvZ a x y n n) q n = pe (fsclQ (hvQ (rc a) (mkR x y) n n) ((y : Rat) ^ (n - 1))) q n := pe_congr fun i _ => by
    rw [← mv_end (a := a) (x := x) (n := n) hy i, scQ_pow, mkR_int]; rfl
  rw [h1, pe_scl, pe_hv, pz_vl, Rat.mul_comm]

/-! ### Far out -/
theorem sgn_pos {d : Int} (h : 0 < d) : sgn d = 1 := by unfold sgn; rw [if_neg (by omega), if_neg (by omega)]
theorem sgn_neg {d : Int} (h : d < 0) : sgn d = -1 := by unfold sgn; rw [if_pos h]
theorem sgn_zero : sgn 0 = 0 := rfl
theorem sgn_mul (a b : Int) : sgn (a * b) = sgn a * sgn b := by
  rcases Int.lt_trichotomy a 0 with ha | ha | ha
  · rcases Int.lt_trichotomy b 0 with hb | hb | hb
    · rw [sgn_neg ha, sgn_neg hb, sgn_pos (Int.mul_pos_of_neg_of_neg ha hb)]; rfl
    · rw [hb, Int.mul_zero, sgn_zero, Int.mul_zero]
    · rw [sgn_neg ha, sgn_pos hb, sgn_neg (Int.mul_neg_of_neg_of_pos ha hb)]; rfl
  · rw [ha, Int.zero_mul, sgn_zero, Int.zero_mul]
  · rcases Int.lt_trichotomy b 0 with hb | hb | hb
    · rw [sgn_pos ha, sgn_neg hb, sgn_neg (Int.mul_neg_of_pos_of_neg ha hb)]; rfl
    · rw [hb, Int.mul_zero, sgn_zero, Int.mul_zero]
    · rw [sgn_pos ha, sgn_pos hb, sgn_pos (Int.mul_pos ha hb)]; rfl
theorem sgn_far {v x c : Int} (hv : v ≠ 0) (h : c.natAbs < x.natAbs) : sgn (v * x + c) = sgn v * sgn x := by
  rw [← sgn_mul]
  have h1 : x.natAbs ≤ (v * x).natAbs := by rw [Int.natAbs_mul]; exact Nat.le_mul_of_pos_left _ (Int.natAbs_pos.2 hv)
  rcases Int.lt_trichotomy (v * x) 0 with e | e | e
  · rw [sgn_neg e, sgn_neg (by omega)]
  · rw [e] at h1; have : (0 : Int).natAbs = 0 := rfl; omega
  · rw [sgn_pos e, sgn_pos (by omega)]
theorem sgn_ne {z : Int} : sgn z ≠ 0 ↔ z ≠ 0 := by unfold sgn; constructor <;> intro h <;> (repeat' split at *) <;> omega
theorem far_sgn {c : Nat → Int} {x : Int} {top : Nat} (h : ∀ i, i < top → (c i).natAbs < x.natAbs) (h0 : c (top - 1) ≠ 0) : ∀ s, s < top → sgn (vlZ c x 1 top (s + 1)) = sgn (c (top - 1)) * (sgn x) ^ s
  | 0, hs => by
    show sgn (0 * x + c (top - 1 - 0) * 1 ^ 0) = _
    rw [Int.zero_mul, Int.zero_add, Int.pow_zero, Int.mul_one, Int.pow_zero, Int.mul_one, Nat.sub_zero]
  | s + 1, hs => by
    have ih := far_sgn h h0 s (by omega)
    have hx : x ≠ 0 := by have := h 0 (by omega); omega
    have hv : vlZ c x 1 top (s + 1) ≠ 0 := by
      rw [← sgn_ne, ih]
      exact Int.mul_ne_zero (sgn_ne.2 h0) (pow_ne_int (sgn_ne.2 hx) s)
    show sgn (vlZ c x 1 top (s + 1) * x + c (top - 1 - (s + 1)) * 1 ^ (s + 1)) = _
    rw [Int.one_pow, Int.mul_one, sgn_far hv (h _ (by omega)), ih, Int.pow_succ, Int.mul_assoc]
theorem vl_one {a : Nat → Int} {x : Int} {top : Nat} : ∀ s, ((vlZ a x 1 top s : Int) : Rat) = vlQ (rc a) (x : Rat) top s
  | 0 => rfl
  | s + 1 => by
    show ((vlZ a x 1 top s * x + a (top - 1 - s) * 1 ^ s : Int) : Rat) = vlQ (rc a) (x : Rat) top s * (x : Rat) + rc a (top - 1 - s)
    rw [Int.one_pow, Int.mul_one, Rat.intCast_add, Rat.intCast_mul, vl_one s]; rfl
/-- The sum of all sizes. -/
def szs (c : Nat → Int) : Nat → Int
  | 0 => 0
  | n + 1 => szs c n + ((c n).natAbs : Int)
theorem szs_nn (c : Nat → Int) : ∀ n, 0 ≤ szs c n
  | 0 => Int.le_refl _
  | n + 1 => by show 0 ≤ szs c n + _; have := szs_nn c n; omega
theorem szs_le {c : Nat → Int} : ∀ {n i : Nat}, i < n → ((c i).natAbs : Int) ≤ szs c n
  | n + 1, i, h => by
    show _ ≤ szs c n + _
    have := szs_nn c n
    rcases Nat.eq_or_lt_of_le (Nat.le_of_lt_succ h) with e | e
    · subst e; omega
    · have := szs_le (c := c) e; omega
/-- Rows that are 0 everywhere. -/
theorem pz_zero {c : Nat → Int} {n : Nat} (hz : ∀ i, n ≤ i → c i = 0) (h : ∀ x : Int, pz c (x : Rat) n = 0) : ∀ i, c i = 0 := by
  have hd : dg c n = 0 := by
    refine Classical.byContradiction fun hne => ?_
    have h0 := dg_ne hne
    let m := dg c n
    have h1 := far_sgn (c := c) (x := 1 + szs c m) (top := m) (fun i hi => by have := szs_le (c := c) hi; have := szs_nn c m; omega) h0 (m - 1) (by omega)
    rw [show m - 1 + 1 = m by omega] at h1
    have h2 : vlZ c (1 + szs c m) 1 m m = 0 := by
      have h3 := vl_one (a := c) (x := 1 + szs c m) (top := m) m
      rw [pz_vl, pz_eq (dg_z hz) hz, h] at h3
      exact Rat.intCast_eq_zero_iff.1 h3
    rw [h2] at h1
    have hx : (1 + szs c m) ≠ 0 := by have := szs_nn c m; omega
    exact Int.mul_ne_zero (sgn_ne.2 h0) (pow_ne_int (sgn_ne.2 hx) (m - 1)) h1.symm
  exact dg_all hz hd
theorem pz_sub {a b : Nat → Int} {q : Rat} {n : Nat} : pz (fsub a b) q n = pz a q n - pz b q n := by
  have h : pe (faddQ (rc a) (fsclQ (rc b) (-1))) q n = pz (fsub a b) q n := pe_congr fun i _ => by
    show rc a i + rc b i * (-1) = ((a i - b i : Int) : Rat)
    rw [Rat.intCast_sub]; show (a i : Rat) + (b i : Rat) * (-1) = _; grind
  rw [← h, pe_add, pe_scl]
  show _ = pe (rc a) q n - pe (rc b) q n
  grind
/-- THE LAW OF ONE: rows that have one value at all whole numbers are one. -/
theorem pz_one {a b : Nat → Int} {n m : Nat} (ha : ∀ i, n ≤ i → a i = 0) (hb : ∀ i, m ≤ i → b i = 0) (h : ∀ x : Int, pz a (x : Rat) n = pz b (x : Rat) m) : ∀ i, a i = b i := by
  have hz : ∀ i, max n m ≤ i → fsub a b i = 0 := fsub_z ha hb
  have h1 := pz_zero hz (fun x => by
    rw [pz_sub, pz_eq (c := a) (n := max n m) (m := n) (fun i hi => ha i (by omega)) ha, pz_eq (c := b) (n := max n m) (m := m) (fun i hi => hb i (by omega)) hb, h]
    grind)
  intro i
  have := h1 i
  unfold fsub at this
  omega
/-- The leading coefficient of one that is moved. -/
theorem mv_top {a : Nat → Int} {x y : Int} {top : Nat} : ∀ s, mvZ a x y top (s + 1) s = a (top - 1) * y ^ s
  | 0 => by
    show conv (fun _ => 0) (lin x y) 0 + onez (a (top - 1 - 0) * y ^ 0) 0 = _
    rw [conv_lin]
    show 0 * x + 0 + a (top - 1 - 0) * y ^ 0 = _
    rw [Nat.sub_zero]; omega
  | s + 1 => by
    show conv (mvZ a x y top (s + 1)) (lin x y) (s + 1) + onez _ (s + 1) = _
    rw [conv_lin, mvZ_z (s + 1) (s + 1) (Nat.le_refl _), onez_z (s + 1) (by omega), if_neg (by omega), Nat.add_sub_cancel, mv_top s, Int.pow_succ, Int.mul_assoc]
    omega
/-- The derivative of a product. -/
theorem der_conv (a b : Nat → Int) (j : Nat) : fder (conv a b) j = fadd (conv (fder a) b) (conv a (fder b)) j := by
  have h1 : conv (fder a) b j = sm (fun i => (a i * (i : Int)) * b (j + 1 - i)) (j + 2) := by
    rw [conv_sm, show j + 2 = (j + 1) + 1 by omega, sm_first (f := fun i => (a i * (i : Int)) * b (j + 1 - i)) (j + 1)]
    show _ = (a 0 * ((0 : Nat) : Int)) * _ + _
    rw [Int.natCast_zero, Int.mul_zero, Int.zero_mul, Int.zero_add]
    exact sm_congr fun i hi => by show (a (i + 1) * ((i + 1 : Nat) : Int)) * b (j - i) = _; rw [show j + 1 - (i + 1) = j - i by omega]
  have h2 : conv a (fder b) j = sm (fun i => a i * (b (j + 1 - i) * ((j + 1 - i : Nat) : Int))) (j + 2) := by
    rw [conv_sm]
    show _ = sm (fun i => a i * (b (j + 1 - i) * ((j + 1 - i : Nat) : Int))) (j + 1) + a (j + 1) * (b (j + 1 - (j + 1)) * ((j + 1 - (j + 1) : Nat) : Int))
    rw [Nat.sub_self, Int.natCast_zero, Int.mul_zero, Int.mul_zero, Int.add_zero]
    exact sm_congr fun i hi => by show a i * (b (j - i + 1) * ((j - i + 1 : Nat) : Int)) = _; rw [show j + 1 - i = j - i + 1 by omega]
  show conv a b (j + 1) * ((j + 1 : Nat) : Int) = conv (fder a) b j + conv a (fder b) j
  rw [h1, h2, ← sm_add, conv_sm, ← sm_mul_r]
  refine sm_congr fun i hi => ?_
  have e : ((j + 1 : Nat) : Int) = (i : Int) + ((j + 1 - i : Nat) : Int) := by omega
  show a i * b (j + 1 - i) * ((j + 1 : Nat) : Int) = a i * (i : Int) * b (j + 1 - i) + a i * (b (j + 1 - i) * ((j + 1 - i : Nat) : Int))
  rw [e]
  grind
/-- Moved there and back. -/
theorem mv_back {a : Nat → Int} {x y : Int} {n : Nat} (hy : ¬ y = 0) (hz : ∀ i, n ≤ i → a i = 0) (i : Nat) : mvZ (mvZ a x y n n) (-x) y n n i = fscl a (y ^ (2 * (n - 1))) i := by
  refine pz_one (mvZ_z n) (fscl_z hz) (fun t => ?_) i
  rw [pz_mv hy, pz_mv hy, pz_scl]
  have hm : mkR (-x) y + mkR x y = 0 := by
    have hy' : (y : Rat) ≠ 0 := fun e => hy (Rat.intCast_eq_zero_iff.1 e)
    have h1 := mkR_div (x := -x) hy
    have h2 := mkR_div (x := x) hy
    rw [Rat.intCast_neg] at h1
    grind
  rw [show ((t : Rat) + mkR (-x) y + mkR x y) = (t : Rat) by grind, cast_pow, show 2 * (n - 1) = (n - 1) + (n - 1) by omega, pow_addQ]
  grind
theorem neg1_pow : ∀ s : Nat, (-1 : Int) ^ s = if s % 2 = 0 then 1 else -1
  | 0 => rfl
  | s + 1 => by
    rw [Int.pow_succ, neg1_pow s]
    by_cases h : s % 2 = 0
    · rw [if_pos h, if_neg (by omega)]; rfl
    · rw [if_neg h, if_pos (by omega)]; rfl
theorem far_at {c : Nat → Int} {x : Int} {m : Nat} (hm : m ≠ 0) (h0 : c (m - 1) ≠ 0) (hx : ∀ i, i < m → (c i).natAbs < x.natAbs) : sgn (vlZ c (mkR (Rat.num (x : Rat)) (Rat.den (x : Rat) : Int)).num ((mkR (Rat.num (x : Rat)) (Rat.den (x : Rat) : Int)).den : Int) m m) = sgn (c (m - 1)) * (sgn x) ^ (m - 1) := by
  rw [mkR_self, Rat.num_intCast, Rat.den_intCast]
  have h := far_sgn hx h0 (m - 1) (by omega)
  rw [show m - 1 + 1 = m by omega] at h
  exact h
theorem far_pos {c : Nat → Int} {N m : Nat} (hmN : m ≤ N) (hm : m ≠ 0) (h0 : c (m - 1) ≠ 0) : sgn (vlZ c (mkR (Rat.num ((1 + szs c N : Int) : Rat)) (Rat.den ((1 + szs c N : Int) : Rat) : Int)).num ((mkR (Rat.num ((1 + szs c N : Int) : Rat)) (Rat.den ((1 + szs c N : Int) : Rat) : Int)).den : Int) m m) = sgn (c (m - 1)) := by
  have hn := szs_nn c N
  rw [far_at hm h0 (fun i hi => by have := szs_le (c := c) (n := N) (i := i) (by omega); omega), sgn_pos (show 0 < 1 + szs c N by omega), Int.one_pow, Int.mul_one]
theorem far_neg {c : Nat → Int} {N m : Nat} (hmN : m ≤ N) (hm : m ≠ 0) (h0 : c (m - 1) ≠ 0) : sgn (vlZ c (mkR (Rat.num ((-(1 + szs c N) : Int) : Rat)) (Rat.den ((-(1 + szs c N) : Int) : Rat) : Int)).num ((mkR (Rat.num ((-(1 + szs c N) : Int) : Rat)) (Rat.den ((-(1 + szs c N) : Int) : Rat) : Int)).den : Int) m m) = if m % 2 = 0 then -sgn (c (m - 1)) else sgn (c (m - 1)) := by
  have hn := szs_nn c N
  rw [far_at hm h0 (fun i hi => by have := szs_le (c := c) (n := N) (i := i) (by omega); omega), sgn_neg (show -(1 + szs c N) < 0 by omega), neg1_pow]
  by_cases h : m % 2 = 0
  · rw [if_neg (by omega), if_pos h]; omega
  · rw [if_pos (by omega), if_neg h]; omega
theorem pow_pos_int {d : Int} (h : 0 < d) : ∀ s : Nat, 0 < d ^ s
  | 0 => by rw [Int.pow_zero]; decide
  | s + 1 => by rw [Int.pow_succ]; exact Int.mul_pos (pow_pos_int h s) h
theorem vl_pz (c : Nat → Int) (q : Rat) (n : Nat) : ((vlZ c q.num (q.den : Int) n n : Int) : Rat) * ((q.den : Int) : Rat) = ((q.den : Int) : Rat) ^ n * pz c q n := by rw [vl_hv, pz_vl]
/-- The sign of a product's value. -/
theorem vl_prod {a b : Nat → Int} {q : Rat} {n m p : Nat} (ha : ∀ i, n ≤ i → a i = 0) (hb : ∀ i, m ≤ i → b i = 0) (hp : ∀ i, p ≤ i → conv a b i = 0) :
    sgn (vlZ (conv a b) q.num (q.den : Int) p p) = sgn (vlZ a q.num (q.den : Int) n n) * sgn (vlZ b q.num (q.den : Int) m m) := by
  have h1 := vl_pz (conv a b) q p
  have h2 := vl_pz a q n
  have h3 := vl_pz b q m
  rw [pz_conv ha hb hp] at h1
  have hd := den_pos q
  generalize hD : (q.den : Int) = D at *
  have e : vlZ (conv a b) q.num D p p * (D * D ^ n * D ^ m) = vlZ a q.num D n n * vlZ b q.num D m m * (D * D * D ^ p) := by
    apply Rat.intCast_inj.1
    simp only [Rat.intCast_mul, cast_pow]
    generalize (vlZ (conv a b) q.num D p p : Rat) = C at *
    generalize (vlZ a q.num D n n : Rat) = A at *
    generalize (vlZ b q.num D m m : Rat) = B at *
    generalize pz a q n = x at *
    generalize pz b q m = y at *
    generalize (D : Rat) ^ n = u at *
    generalize (D : Rat) ^ m = v at *
    generalize (D : Rat) ^ p = t at *
    grind
  have e2 := congrArg sgn e
  rw [sgn_mul, sgn_mul (vlZ a q.num D n n * vlZ b q.num D m m), sgn_pos (Int.mul_pos (Int.mul_pos hd (pow_pos_int hd n)) (pow_pos_int hd m)), sgn_pos (Int.mul_pos (Int.mul_pos hd hd) (pow_pos_int hd p)), Int.mul_one, Int.mul_one, sgn_mul] at e2
  exact e2
theorem sgn_bd2 (z : Int) : -1 ≤ sgn z ∧ sgn z ≤ 1 := by unfold sgn; (repeat' split) <;> omega
theorem sgn_wr (a b : Int) : IntKind.i64.wrap (sgn a * sgn b) = sgn a * sgn b := by rw [← sgn_mul]; have := sgn_bd2 (a * b); exact wr64 (by omega) (by omega)
theorem divInt_div {x y : Int} (hy : y ≠ 0) : (y : Rat) * Rat.divInt x y = (x : Rat) := by
  have h := mkR_div (x := x) hy
  rw [mkR_ne hy] at h
  rw [Rat.mul_comm]; exact h
theorem lst2_z {x y : Int} : ∀ i, 2 ≤ i → lst [-x, y] i = 0 := fun i hi => lst_z (l := [-x, y]) i hi
theorem root_lin {x y : Int} (hy : y ≠ 0) {m : Nat} (hm : ∀ i, m ≤ i → lst [-x, y] i = 0) : pz (lst [-x, y]) (Rat.divInt x y) m = 0 := by
  rw [pz_eq hm (lst2_z (x := x) (y := y))]
  show ((0 : Rat) + ((-x : Int) : Rat) * (Rat.divInt x y) ^ 0) + (y : Rat) * (Rat.divInt x y) ^ 1 = 0
  have h := divInt_div (x := x) hy
  rw [Rat.pow_succ, Rat.pow_zero, Rat.intCast_neg]
  grind
theorem root_val {c : Nat → Int} {x y : Int} {n p : Nat} (hy : y ≠ 0) (hz : ∀ i, n ≤ i → c i = 0) (hp : ∀ i, p ≤ i → conv c (lst [-x, y]) i = 0) : vlQ (rc (conv c (lst [-x, y]))) (Rat.divInt x y) p p = 0 := by
  rw [pz_vl, pz_conv hz (lst2_z (x := x) (y := y)) hp, root_lin hy lst2_z, Rat.mul_zero]
theorem root_sgn {c : Nat → Int} {x y : Int} {n p : Nat} (hy : y ≠ 0) (hz : ∀ i, n ≤ i → c i = 0) (hp : ∀ i, p ≤ i → conv c (lst [-x, y]) i = 0) : sgn (vlZ (conv c (lst [-x, y])) (Rat.divInt x y).num ((Rat.divInt x y).den : Int) p p) = 0 := by
  rw [vl_prod hz (lst2_z (x := x) (y := y)) hp]
  have h := vl_pz (lst [-x, y]) (Rat.divInt x y) 2
  rw [root_lin hy lst2_z, Rat.mul_zero] at h
  have hd : (((Rat.divInt x y).den : Int) : Rat) ≠ 0 := fun e => den_ne _ (Rat.intCast_eq_zero_iff.1 e)
  have h2 : ((vlZ (lst [-x, y]) (Rat.divInt x y).num ((Rat.divInt x y).den : Int) 2 2 : Int) : Rat) = 0 := (Rat.mul_eq_zero.1 h).resolve_right hd
  rw [Rat.intCast_eq_zero_iff.1 h2]
  exact Int.mul_zero _
theorem roots_mv {c : Nat → Int} {x y : Int} {n p : Nat} {q : Rat} (hy : y ≠ 0) (hz : ∀ i, n ≤ i → c i = 0) (hp : ∀ i, p ≤ i → mvZ c x y n n i = 0) : vlQ (rc (mvZ c x y n n)) q p p = ((y ^ (((n - 1 : Nat) : Int)).toNat : Int) : Rat) * vlQ (rc c) (q + Rat.divInt x y) n n := by
  rw [pz_vl, pz_vl, pz_eq hp (mvZ_z n), pz_mv hy, mkR_ne hy, cast_pow, Int.toNat_natCast]
theorem mv_dg {c : Nat → Int} {x y : Int} {n p : Nat} (hy : y ≠ 0) (h : n = 0 ∨ c (n - 1) ≠ 0) (hp : ∀ i, p ≤ i → mvZ c x y n n i = 0) : dg (mvZ c x y n n) p = n := by
  refine dg_uniq dg_or (dg_z hp) ?_ (mvZ_z n)
  rcases h with h | h
  · exact Or.inl h
  · rcases Nat.eq_zero_or_pos n with e | e
    · exact Or.inl e
    · refine Or.inr ?_
      have ht := mv_top (a := c) (x := x) (y := y) (top := n) (n - 1)
      rw [show n - 1 + 1 = n by omega] at ht
      rw [ht]
      exact Int.mul_ne_zero h (pow_ne_int hy _)
end Go.Proofs.YtcnfblffeghboaaGreat

