/-
  VALUES of the plain reckoning's polynomials, by the machine.
-/
import Derived.Test.YtnnpjkalkfoolaaJ4
import Derived.Test.YtnnpjkalkfoolaaJ0
import Derived.OpenShut
import Derived.Deep.Slices
import Derived.ChangeOld
import Derived.Test.YtnnpjkalkfoolaaJ3
import Derived.ChangeSame
import Derived.Lib.SmallJoins
set_option linter.unusedVariables false
set_option linter.unusedSimpArgs false
namespace Go.Proofs.Ytnnpjkalkfoolaa
open Go.RowKit

set_option maxRecDepth 100000 in
set_option maxHeartbeats 4000000 in
theorem aQVal {a : Lf} {b : List Lf} {K L M n D T : Nat} {c : Nat → Rat} {q : Rat} (ha : IsQP a K n c) (hb : IsQ b L q) (hn : n ≤ D) (hDD : D ≤ 1000 := by decide) (hT : K + L + 140 ≤ T := by decide) (hM : (D + 1) * T ≤ M := by decide) (hMM : M ≤ 10000000 := by decide) : ACall Try.prog 65 [.one a, .agg b] (.d (.agg (qn M (vlQ c q n n)))) := by
  obtain ⟨ha, za⟩ := ha
  refine ACall.le (dl (DV.l ha) (dl (DV.g hb) dl0)) AV.le.rfl ?_
  obtain ⟨R, hR0, hR1, hRM⟩ : ∃ R : Nat → Nat, 64 ≤ R 0 ∧ (∀ i, R i + T ≤ R (i + 1)) ∧ ∀ i, i ≤ D → R i ≤ M := ⟨fun i => (i + 1) * T, by show 64 ≤ (0 + 1) * T; omega, fun i => by show (i + 1) * T + T ≤ (i + 1 + 1) * T; rw [Nat.succ_mul (i + 1)]; exact Nat.le_refl _, fun i hi => Nat.le_trans (Nat.mul_le_mul_right _ (by omega)) hM⟩
  have hT1 := hRM 0 (Nat.zero_le _)
  have hTM : T ≤ M := Nat.le_trans (Nat.le_mul_of_pos_left T (by omega)) hM
  refine acallN hTT 24 [.cell 4 43] Try.func65 rfl rfl rfl rfl rfl ?_
  refine cSeq ?_
  refine cReg ?_
  refine mN hTT (.box 43 (qn L q)) rfl rfl rfl ?_
  refine mN hTT (.box 43 ([.v (.slice none 0 0), .v (.bool false), .v (.slice none 0 0), .v (.bool false)])) rfl rfl rfl ?_
  refine mNil ?_
  refine tN ?_
  refine cSeq ?_
  refine cReg ?_
  refine mC0 (aQZero) rfl rfl rfl ?_
  refine mN hTT (.box 43 ([.v (.slice none 0 0), .v (.bool false), .v (.slice none 0 0), .v (.bool false)])) rfl rfl rfl ?_
  refine mS hTT 5 (.box 43 (qn 64 0)) rfl ?_
  refine mNil ?_
  refine tN ?_
  refine cSeq ?_
  refine cSeq ?_
  refine cReg ?_
  refine mV hTT _ rfl ?_
  refine mV hTT (.d (.one (.v (.int .i64 (n : Int))))) rfl ?_
  refine mV hTT (.d (.one (.v (.int .i64 ((n : Int) - 1))))) (evi (wr64 (by omega) (by omega))) ?_
  refine mV hTT _ rfl ?_
  refine mNil ?_
  refine tN ?_
  refine cBlock ?_
  refine cLoop (ι := Nat) (fun (s : Nat) => ⟨24, [(0, .d (.one (.row 4 n (qel K c)))), (3, .ptr 3 0), (4, .ptr 4 0), (5, .ptr 5 0), (6, .d (.one (.v (.int .i64 ((n : Int) - 1 - (s : Int))))))], [(3, .box 43 (qn L q)), (4, .box 43 ([.v (.slice none 0 0), .v (.bool false), .v (.slice none 0 0), .v (.bool false)])), (5, .box 43 (qn (R s) (vlQ c q n s)))]⟩) (fun (s : Nat) => s ≤ n) (fun (s : Nat) => n - s) 0 (Nat.zero_le _) (wk (sl := [(0, .d (.one (.row 4 n (qel K c)))), (3, .ptr 3 0), (4, .ptr 4 0), (5, .ptr 5 0), (6, .d (.one (.v (.int .i64 ((n : Int) - 1 - ((0 : Nat) : Int))))))]) (hp := [(3, .box 43 (qn L q)), (4, .box 43 ([.v (.slice none 0 0), .v (.bool false), .v (.slice none 0 0), .v (.bool false)])), (5, .box 43 (qn (R 0) (vlQ c q n 0)))]) rfl ⟨hs rfl, hs rfl, hs rfl, hs rfl, hs' rfl (le_int (by omega)), trivial⟩ ⟨ho rfl, ho rfl, ho' rfl (leo_qn (by omega) rfl), trivial⟩ rfl) ?_
  rintro s hI
  have hi : s ≤ n := hI
  show AW Try.prog _ _ ⟨24, [(0, .d (.one (.row 4 n (qel K c)))), (3, .ptr 3 0), (4, .ptr 4 0), (5, .ptr 5 0), (6, .d (.one (.v (.int .i64 ((n : Int) - 1 - (s : Int))))))], [(3, .box 43 (qn L q)), (4, .box 43 ([.v (.slice none 0 0), .v (.bool false), .v (.slice none 0 0), .v (.bool false)])), (5, .box 43 (qn (R s) (vlQ c q n s)))]⟩
  refine cSeq ?_
  refine cSeq ?_
  refine cReg ?_
  refine mV hTT _ rfl ?_
  refine mV hTT (.d (.one (.v (.bool (decide (((n : Int) - 1 - (s : Int)) ≥ 0)))))) rfl ?_
  refine mNil ?_
  refine tN ?_
  refine cCond rfl (fun hc1 => ?_) (fun hc1 => ?_)
  · skip
    refine cSkip ?_
    refine tN ?_
    refine cSeq ?_
    refine cBlock ?_
    have hsd : s < n := by have h0 := of_decide_eq_true hc1; omega
    have hR := hR1 s
    have hRm := hRM (s + 1) (by omega)
    refine cView 6 (.d (.one (.v (.int .i64 ((n - 1 - s : Nat) : Int))))) rfl (le_int (by omega)) ?_
    refine cDrawK hTT 8 (by kernel_rfl) (by kernel_rfl) (by kernel_rfl) ?_
    refine .cons (OpS.V (.d (.agg (qn (R s) (vlQ c q n s)))) rfl) ?_
    refine .cons (OpS.V (.d (.agg (qn L q))) rfl) ?_
    refine .cons (OpS.C0 (aRMulR (isq (R s) (vlQ c q n s)) (isq L q) (M := (max ((R s) + L + 1) 64)) (by omega) (by omega)) rfl rfl rfl) ?_
    refine .cons (OpS.V _ rfl) ?_
    refine .cons (OpS.V _ rfl) ?_
    refine .cons (OpS.V (.d (.one (.at 4 ((qel K c) (n - 1 - s))))) (ixR (el := (qel K c)) (z := ((n - 1 - s : Nat) : Int)) (n := n) rfl rfl rfl rfl rfl rfl (by omega) (by omega))) ?_
    refine .cons (OpS.V (.d (.agg (qn K (c (n - 1 - s))))) rfl) ?_
    refine .cons (OpS.C0 (aRAddR (isq (max ((R s) + L + 1) 64) ((vlQ c q n s) * q)) (isq K (c (n - 1 - s))) (M := (max ((max ((R s) + L + 1) 64) + K + 1) 64)) (by omega) (by omega)) rfl rfl rfl) ?_
    refine .nil ?_
    refine mS hTT 5 (.box 43 (qn (max ((max ((R s) + L + 1) 64) + K + 1) 64) (((vlQ c q n s) * q) + (c (n - 1 - s))))) rfl ?_
    refine mNil ?_
    refine bN ?_
    refine tN ?_
    refine cReg ?_
    refine mV hTT _ rfl ?_
    refine mV hTT (.d (.one (.v (.int .i64 (IntKind.i64.wrap (((n - 1 - s : Nat) : Int) - 1)))))) rfl ?_
    refine mV hTT _ rfl ?_
    refine mNil ?_
    exact ⟨(s + 1), by omega, by omega, wk (sl := [(0, .d (.one (.row 4 n (qel K c)))), (3, .ptr 3 0), (4, .ptr 4 0), (5, .ptr 5 0), (6, .d (.one (.v (.int .i64 ((n : Int) - 1 - ((s + 1) : Int))))))]) (hp := [(3, .box 43 (qn L q)), (4, .box 43 ([.v (.slice none 0 0), .v (.bool false), .v (.slice none 0 0), .v (.bool false)])), (5, .box 43 (qn (R (s + 1)) (vlQ c q n (s + 1))))]) rfl ⟨hs rfl, hs rfl, hs rfl, hs rfl, hs' rfl (le_int ((wr64 (by omega) (by omega)).trans (by omega))), trivial⟩ ⟨ho rfl, ho rfl, ho' rfl (leo_qn (by omega) rfl), trivial⟩ rfl⟩
  · skip
    refine cExit ?_
    refine tE ?_
    refine tE ?_
    refine bE ?_
    refine tN ?_
    refine cSeq ?_
    refine cReg ?_
    refine mV hTT (.d (.agg (qn (R s) (vlQ c q n s)))) rfl ?_
    refine mS hTT 4 (.box 43 (qn (R s) (vlQ c q n s))) rfl ?_
    refine mNil ?_
    refine tN ?_
    refine cRet ?_
    have hie : n = s := by have h0 := of_decide_eq_false hc1; omega
    subst hie
    exact rQ rfl (le_qn (hRM _ hn) rfl)

set_option maxRecDepth 100000 in
set_option maxHeartbeats 4000000 in
theorem aQWhole {K n : Nat} {c : Nat → Int} (hn : n ≤ 1000000) : ACall Try.prog 110 [.one (qrow K n (rc c))] (.d (.one (.v (.bool true)))) := by
  refine acallN hTT 29 [.tmp 2] Try.func110 rfl rfl rfl rfl rfl ?_
  refine cSeq ?_
  refine cReg ?_
  refine mV hTT _ rfl ?_
  refine mNil ?_
  refine tN ?_
  refine cSeq ?_
  refine cSeq ?_
  refine cReg ?_
  refine mV hTT _ rfl ?_
  refine mV hTT (.d (.one (.v (.int .i64 (n : Int))))) rfl ?_
  refine mV hTT _ rfl ?_
  refine mNil ?_
  refine tN ?_
  refine cBlock ?_
  refine cLoop (ι := Nat) (fun (i : Nat) => ⟨29, [(0, .d (.one (.row 4 n (qel K (rc c))))), (5, .d (.one (.v (.int .i64 (n : Int))))), (6, .d (.one (.v (.int .i64 ((i : Nat) : Int)))))], []⟩) (fun (i : Nat) => i ≤ n) (fun (i : Nat) => n - i) 0 (Nat.zero_le _) (wk (sl := [(0, .d (.one (.row 4 n (qel K (rc c))))), (5, .d (.one (.v (.int .i64 (n : Int))))), (6, .d (.one (.v (.int .i64 ((0 : Nat) : Int)))))]) (hp := []) rfl ⟨hs rfl, hs rfl, hs rfl, trivial⟩ trivial rfl) ?_
  rintro i hI
  have hi : i ≤ n := hI
  show AW Try.prog _ _ ⟨29, [(0, .d (.one (.row 4 n (qel K (rc c))))), (5, .d (.one (.v (.int .i64 (n : Int))))), (6, .d (.one (.v (.int .i64 ((i : Nat) : Int)))))], []⟩
  refine cSeq ?_
  refine cReg ?_
  refine mV hTT (.d (.one (.v (.bool (decide (((i : Nat) : Int) < (n : Int))))))) rfl ?_
  refine mNil ?_
  refine tN ?_
  refine cSeq ?_
  refine cCond rfl (fun hc1 => ?_) (fun hc1 => ?_)
  · skip
    refine cSkip ?_
    refine tN ?_
    refine cSeq ?_
    refine cBlock ?_
    refine cSeq ?_
    refine cReg ?_
    refine mV hTT _ rfl ?_
    refine mV hTT _ rfl ?_
    refine mNil ?_
    refine tN ?_
    refine cSeq ?_
    have hin : i < n := by have h0 := of_decide_eq_true hc1; omega
    have hden : Int.natAbs ((rc c i).den : Int) = 1 := by unfold rc; rw [Rat.den_intCast]; rfl
    refine cReg ?_
    refine mV hTT _ rfl ?_
    refine mV hTT _ rfl ?_
    refine mV hTT (.d (.one (.at 4 ((qel K (rc c)) i)))) (ixR (el := (qel K (rc c))) (z := ((i : Nat) : Int)) (n := n) rfl rfl rfl rfl rfl rfl (by omega) (by omega)) ?_
    refine mV hTT _ rfl ?_
    refine mV hTT _ rfl ?_
    refine mV hTT (.d (.one (dn K (Int.natAbs (Rat.den ((rc c) i) : Int))))) rfl ?_
    refine mV hTT (.d (.one (.v (.int .i64 ((digs4 (Int.natAbs (Rat.den ((rc c) i) : Int))).length : Int))))) rfl ?_
    refine mV hTT (.d (.one (.v (.bool false)))) (evb (by show (((digs4 (Int.natAbs ((rc c i).den : Int))).length : Int) != 1) = false; rw [hden, (digs1.2 rfl).1]; rfl)) ?_
    refine mV hTT _ rfl ?_
    refine mV hTT _ rfl ?_
    refine mV hTT _ rfl ?_
    refine mV hTT (.d (.one (.at 4 ((qel K (rc c)) i)))) (ixR (el := (qel K (rc c))) (z := ((i : Nat) : Int)) (n := n) rfl rfl rfl rfl rfl rfl (by omega) (by omega)) ?_
    refine mV hTT _ rfl ?_
    refine mV hTT _ rfl ?_
    refine mV hTT (.d (.one (dn K (Int.natAbs (Rat.den ((rc c) i) : Int))))) rfl ?_
    refine mView 23 (.d (.one (.row 1 ((digs4 (Int.natAbs ((rc c i).den : Int))).length) (fun i _ => .v (.int .i64 (((digs4 (Int.natAbs ((rc c i).den : Int))).getD i 0 : Nat) : Int)))))) rfl (le_drow _ _) ?_
    refine mV hTT (.d (.one (.at 1 ((fun i _ => .v (.int .i64 (((digs4 (Int.natAbs ((rc c i).den : Int))).getD i 0 : Nat) : Int))) 0)))) (ixR (el := (fun i _ => .v (.int .i64 (((digs4 (Int.natAbs ((rc c i).den : Int))).getD i 0 : Nat) : Int)))) (z := 0) (n := ((digs4 (Int.natAbs ((rc c i).den : Int))).length)) rfl rfl rfl rfl rfl rfl (by decide) (by rw [hden, (digs1.2 rfl).1]; decide)) ?_
    refine mV hTT (.d (.one (.v (.int .i64 (((digs4 (Int.natAbs ((rc c i).den : Int))).getD 0 0 : Nat) : Int))))) rfl ?_
    refine mV hTT (.d (.one (.v (.bool false)))) (evb (by show ((((digs4 (Int.natAbs ((rc c i).den : Int))).getD 0 0 : Nat) : Int) != 1) = false; rw [hden, (digs1.2 rfl).2]; rfl)) ?_
    refine mV hTT _ rfl ?_
    refine mNil ?_
    refine tN ?_
    refine cF rfl ?_
    refine cSkip ?_
    refine bN ?_
    refine tN ?_
    refine cReg ?_
    refine mV hTT (.d (.one (.v (.int .i64 (IntKind.i64.wrap (((i : Nat) : Int) + 1)))))) rfl ?_
    refine mV hTT _ rfl ?_
    refine mNil ?_
    exact ⟨(i + 1), by omega, by omega, wk (sl := [(0, .d (.one (.row 4 n (qel K (rc c))))), (5, .d (.one (.v (.int .i64 (n : Int))))), (6, .d (.one (.v (.int .i64 (((i + 1) : Nat) : Int)))))]) (hp := []) rfl ⟨hs rfl, hs rfl, hs' rfl (le_int (inc64 (by omega))), trivial⟩ trivial rfl⟩
  · skip
    refine cExit ?_
    refine tE ?_
    refine tE ?_
    refine bE ?_
    refine tN ?_
    refine cSeq ?_
    refine cReg ?_
    refine mV hTT _ rfl ?_
    refine mNil ?_
    refine tN ?_
    refine cRet ?_
    exact rQ rfl (AV.le.rfl)

theorem leo_nilr {t : TypeId} {K : Nat} : AO.le (.box t [.v (.slice none 0 0), .v (.bool false)]) (.box t (rn K 0)) := leo_box fun B w cs h => rn_mono (Nat.zero_le _) _ _ _ (nil_rs h)
set_option maxRecDepth 100000 in
set_option maxHeartbeats 4000000 in
theorem aQSign {a : Lf} {b : List Lf} {K L M n D T : Nat} {c : Nat → Int} {q : Rat} (ha : ∀ B w v, LfR B w a v → LfR B w (qrow K n (rc c)) v) (hb : IsQ b L q) (hn : n ≤ D) (hDD : D ≤ 1000 := by decide) (hT : K + L + 140 ≤ T := by decide) (hM : (D + 1) * T ≤ M := by decide) (hMM : M ≤ 10000000 := by decide) : ACall Try.prog 66 [.one a, .agg b] (.d (.one (.v (.int .i64 (sgn (vlZ c q.num (q.den : Int) n n)))))) := by
  refine ACall.le (dl (DV.l ha) (dl (DV.g hb) dl0)) AV.le.rfl ?_
  obtain ⟨R, hR0, hR1, hRM⟩ : ∃ R : Nat → Nat, 64 ≤ R 0 ∧ (∀ i, R i + T ≤ R (i + 1)) ∧ ∀ i, i ≤ D → R i ≤ M := ⟨fun i => (i + 1) * T, by show 64 ≤ (0 + 1) * T; omega, fun i => by show (i + 1) * T + T ≤ (i + 1 + 1) * T; rw [Nat.succ_mul (i + 1)]; exact Nat.le_refl _, fun i hi => Nat.le_trans (Nat.mul_le_mul_right _ (by omega)) hM⟩
  have hT1 := hRM 0 (Nat.zero_le _)
  have hTM : T ≤ M := Nat.le_trans (Nat.le_mul_of_pos_left T (by omega)) hM
  refine acallN hTT 42 [.tmp 4] Try.func66 rfl rfl rfl rfl rfl ?_
  refine cSeq ?_
  refine cReg ?_
  refine mN hTT (.box 43 (qn L q)) rfl rfl rfl ?_
  refine mV hTT _ rfl ?_
  refine mNil ?_
  refine tN ?_
  refine cSeq ?_
  refine cSeq ?_
  refine cReg ?_
  refine mV hTT _ rfl ?_
  refine mC0 (aQWhole (K := K) (n := n) (c := c) (by omega)) rfl rfl rfl ?_
  refine mV hTT (.d (.one (.v (.bool false)))) rfl ?_
  refine mNil ?_
  refine tN ?_
  refine cF rfl ?_
  refine cSkip ?_
  refine tN ?_
  refine cSeq ?_
  refine cReg ?_
  refine mN hTT (.box 38 ([.v (.slice none 0 0), .v (.bool false)])) rfl rfl rfl ?_
  refine mNil ?_
  refine tN ?_
  refine cSeq ?_
  refine cReg ?_
  refine mC0 (aROf (n := 1) (by decide) (by decide)) rfl rfl rfl ?_
  refine mN hTT (.box 38 ([.v (.slice none 0 0), .v (.bool false)])) rfl rfl rfl ?_
  refine mS hTT 6 (.box 38 (rn 64 1)) rfl ?_
  refine mNil ?_
  refine tN ?_
  refine cSeq ?_
  refine cSeq ?_
  refine cReg ?_
  refine mV hTT _ rfl ?_
  refine mV hTT (.d (.one (.v (.int .i64 (n : Int))))) rfl ?_
  refine mV hTT (.d (.one (.v (.int .i64 ((n : Int) - 1))))) (evi (wr64 (by omega) (by omega))) ?_
  refine mV hTT _ rfl ?_
  refine mNil ?_
  refine tN ?_
  refine cBlock ?_
  refine cLoop (ι := Nat) (fun (s : Nat) => ⟨42, [(0, .d (.one (.row 4 n (qel K (rc c))))), (3, .ptr 3 0), (5, .ptr 5 0), (6, .ptr 6 0), (7, .d (.one (.v (.int .i64 ((n : Int) - 1 - (s : Int))))))], [(3, .box 43 (qn L q)), (5, .box 38 (rn (R s) (vlZ c q.num (q.den : Int) n s))), (6, .box 38 (rn (R s) ((q.den : Int) ^ s)))]⟩) (fun (s : Nat) => s ≤ n) (fun (s : Nat) => n - s) 0 (Nat.zero_le _) (wk (sl := [(0, .d (.one (.row 4 n (qel K (rc c))))), (3, .ptr 3 0), (5, .ptr 5 0), (6, .ptr 6 0), (7, .d (.one (.v (.int .i64 ((n : Int) - 1 - ((0 : Nat) : Int))))))]) (hp := [(3, .box 43 (qn L q)), (5, .box 38 (rn (R 0) (vlZ c q.num (q.den : Int) n 0))), (6, .box 38 (rn (R 0) ((q.den : Int) ^ 0)))]) rfl ⟨hs rfl, hs rfl, hs rfl, hs rfl, hs' rfl (le_int (by omega)), trivial⟩ ⟨ho rfl, ho' rfl (leo_nilr), ho' rfl (leo_rn (by omega) (Int.pow_zero (q.den : Int)).symm), trivial⟩ rfl) ?_
  rintro s hI
  have hi : s ≤ n := hI
  show AW Try.prog _ _ ⟨42, [(0, .d (.one (.row 4 n (qel K (rc c))))), (3, .ptr 3 0), (5, .ptr 5 0), (6, .ptr 6 0), (7, .d (.one (.v (.int .i64 ((n : Int) - 1 - (s : Int))))))], [(3, .box 43 (qn L q)), (5, .box 38 (rn (R s) (vlZ c q.num (q.den : Int) n s))), (6, .box 38 (rn (R s) ((q.den : Int) ^ s)))]⟩
  refine cSeq ?_
  refine cSeq ?_
  refine cReg ?_
  refine mV hTT _ rfl ?_
  refine mV hTT (.d (.one (.v (.bool (decide (((n : Int) - 1 - (s : Int)) ≥ 0)))))) rfl ?_
  refine mNil ?_
  refine tN ?_
  refine cCond rfl (fun hc1 => ?_) (fun hc1 => ?_)
  · skip
    refine cSkip ?_
    refine tN ?_
    refine cSeq ?_
    refine cBlock ?_
    refine cSeq ?_
    have hsd : s < n := by have h0 := of_decide_eq_true hc1; omega
    have hR := hR1 s
    have hRm := hRM (s + 1) (by omega)
    refine cView 7 (.d (.one (.v (.int .i64 ((n - 1 - s : Nat) : Int))))) rfl (le_int (by omega)) ?_
    refine cDrawK hTT 12 (by kernel_rfl) (by kernel_rfl) (by kernel_rfl) ?_
    refine .cons (OpS.V (.d (.agg (rn (R s) (vlZ c q.num (q.den : Int) n s)))) rfl) ?_
    refine .cons (OpS.V (.ptr 3 0) rfl) ?_
    refine .cons (OpS.V (.d (.agg (rn L (Rat.num q)))) rfl) ?_
    refine .cons (OpS.C0 (aRMul (isr (R s) (vlZ c q.num (q.den : Int) n s)) (isr L (Rat.num q)) (M := ((R s) + L)) (by omega) (by omega) (by omega)) rfl rfl rfl) ?_
    refine .cons (OpS.V _ rfl) ?_
    refine .cons (OpS.V _ rfl) ?_
    refine .cons (OpS.V (.d (.one (.at 4 ((qel K (rc c)) (n - 1 - s))))) (ixR (el := (qel K (rc c))) (z := ((n - 1 - s : Nat) : Int)) (n := n) rfl rfl rfl rfl rfl rfl (by omega) (by omega))) ?_
    refine .cons (OpS.V _ rfl) ?_
    refine .cons (OpS.V (.d (.agg (rn K (Rat.num ((rc c) (n - 1 - s)))))) rfl) ?_
    refine .cons (OpS.V (.d (.agg (rn (R s) ((q.den : Int) ^ s)))) rfl) ?_
    refine .cons (OpS.C0 (aRMul (isr K (Rat.num ((rc c) (n - 1 - s)))) (isr (R s) ((q.den : Int) ^ s)) (M := (K + (R s))) (by omega) (by omega) (by omega)) rfl rfl rfl) ?_
    refine .cons (OpS.C0 (aRAdd (isr ((R s) + L) ((vlZ c q.num (q.den : Int) n s) * (Rat.num q))) (isr (K + (R s)) ((Rat.num ((rc c) (n - 1 - s))) * ((q.den : Int) ^ s))) (M := (max ((R s) + L) (K + (R s)) + 1)) (by omega) (by omega) (by omega)) rfl rfl rfl) ?_
    refine .nil ?_
    refine mS hTT 5 (.box 38 (rn (max ((R s) + L) (K + (R s)) + 1) (((vlZ c q.num (q.den : Int) n s) * (Rat.num q)) + ((Rat.num ((rc c) (n - 1 - s))) * ((q.den : Int) ^ s))))) rfl ?_
    refine mNil ?_
    refine tN ?_
    refine cReg ?_
    refine mV hTT (.d (.agg (rn (R s) ((q.den : Int) ^ s)))) rfl ?_
    refine mV hTT (.ptr 3 2) rfl ?_
    refine mV hTT (.d (.agg (rn L (Rat.den q : Int)))) rfl ?_
    refine mC0 (aRMul (isr (R s) ((q.den : Int) ^ s)) (isr L (Rat.den q : Int)) (M := ((R s) + L)) (by omega) (by omega) (by omega)) rfl rfl rfl ?_
    refine mS hTT 6 (.box 38 (rn ((R s) + L) (((q.den : Int) ^ s) * (Rat.den q : Int)))) rfl ?_
    refine mNil ?_
    refine bN ?_
    refine tN ?_
    refine cReg ?_
    refine mV hTT _ rfl ?_
    refine mV hTT (.d (.one (.v (.int .i64 (IntKind.i64.wrap (((n - 1 - s : Nat) : Int) - 1)))))) rfl ?_
    refine mV hTT _ rfl ?_
    refine mNil ?_
    exact ⟨(s + 1), by omega, by omega, wk (sl := [(0, .d (.one (.row 4 n (qel K (rc c))))), (3, .ptr 3 0), (5, .ptr 5 0), (6, .ptr 6 0), (7, .d (.one (.v (.int .i64 ((n : Int) - 1 - ((s + 1) : Int))))))]) (hp := [(3, .box 43 (qn L q)), (5, .box 38 (rn (R (s + 1)) (vlZ c q.num (q.den : Int) n (s + 1)))), (6, .box 38 (rn (R (s + 1)) ((q.den : Int) ^ (s + 1))))]) rfl ⟨hs rfl, hs rfl, hs rfl, hs rfl, hs' rfl (le_int ((wr64 (by omega) (by omega)).trans (by omega))), trivial⟩ ⟨ho rfl, ho' rfl (leo_rn (by omega) (by show _ = vlZ c q.num (q.den : Int) n s * q.num + c (n - 1 - s) * (q.den : Int) ^ s; rw [show (rc c (n - 1 - s)).num = c (n - 1 - s) from Rat.num_intCast _])), ho' rfl (leo_rn (by omega) (Int.pow_succ (q.den : Int) s).symm), trivial⟩ rfl⟩
  · skip
    refine cExit ?_
    refine tE ?_
    refine tE ?_
    refine bE ?_
    refine tN ?_
    refine cSeq ?_
    refine cReg ?_
    refine mV hTT (.d (.agg (rn (R s) (vlZ c q.num (q.den : Int) n s)))) rfl ?_
    refine mC0 (aRSign (isr (R s) (vlZ c q.num (q.den : Int) n s))) rfl rfl rfl ?_
    refine mV hTT _ rfl ?_
    refine mNil ?_
    refine tN ?_
    refine cRet ?_
    have hie : n = s := by have h0 := of_decide_eq_false hc1; omega
    subst hie
    exact rQ rfl AV.le.rfl

set_option maxRecDepth 100000 in
set_option maxHeartbeats 4000000 in
theorem aQEnds {K n : Nat} {c : Nat → Int} (hn : n ≤ 1000000) : ACall Try.prog 63 [.one (qrow K n (rc c))] (.tup [.one (.v (.int .i64 (if n = 0 then 0 else if n % 2 = 0 then -sgn (c (n - 1)) else sgn (c (n - 1))))), .one (.v (.int .i64 (if n = 0 then 0 else sgn (c (n - 1)))))]) := by
  refine acallN hTT 25 [.tmp 2, .tmp 3] Try.func63 rfl rfl rfl rfl rfl ?_
  refine cSeq ?_
  refine cReg ?_
  refine mV hTT _ rfl ?_
  refine mV hTT _ rfl ?_
  refine mNil ?_
  refine tN ?_
  refine cSeq ?_
  refine cSeq ?_
  refine cReg ?_
  refine mV hTT _ rfl ?_
  refine mV hTT (.d (.one (.v (.int .i64 (n : Int))))) rfl ?_
  refine mV hTT (.d (.one (.v (.bool ((n : Int) == 0))))) rfl ?_
  refine mNil ?_
  refine tN ?_
  refine cCond rfl (fun hc1 => ?_) (fun hc1 => ?_)
  · skip
    refine cSeq ?_
    refine cReg ?_
    refine mV hTT _ rfl ?_
    refine mV hTT _ rfl ?_
    refine mNil ?_
    refine tN ?_
    refine cRet ?_
    refine tR ?_
    exact rQ rfl (le_tup (dl (dle (le_int (by rw [if_pos (by have h0 := eq_of_beq hc1; omega)]))) (dl (dle (le_int (by rw [if_pos (by have h0 := eq_of_beq hc1; omega)]))) dl0)))
  · skip
    refine cSkip ?_
    refine tN ?_
    refine cSeq ?_
    have hn0 : n ≠ 0 := fun e => by have h0 := hc1; rw [e] at h0; exact absurd h0 (by decide)
    refine cReg ?_
    refine mV hTT _ rfl ?_
    refine mV hTT _ rfl ?_
    refine mV hTT (.d (.one (.v (.int .i64 (n : Int))))) rfl ?_
    refine mV hTT (.d (.one (.v (.int .i64 ((n - 1 : Nat) : Int))))) (evi ((wr64 (by omega) (by omega)).trans (by omega))) ?_
    refine mV hTT (.d (.one (.at 4 ((qel K (rc c)) (n - 1))))) (ixR (el := (qel K (rc c))) (z := ((n - 1 : Nat) : Int)) (n := n) rfl rfl rfl rfl rfl rfl (by omega) (by omega)) ?_
    refine mV hTT _ rfl ?_
    refine mV hTT (.d (.agg (rn K (Rat.num ((rc c) (n - 1)))))) rfl ?_
    refine mC0 (aRSign (isr K (Rat.num ((rc c) (n - 1))))) rfl rfl rfl ?_
    refine mV hTT _ rfl ?_
    refine mNil ?_
    refine tN ?_
    refine cSeq ?_
    refine cSeq ?_
    refine cReg ?_
    refine mV hTT _ rfl ?_
    refine mV hTT (.d (.one (.v (.int .i64 (n : Int))))) rfl ?_
    refine mV hTT (.d (.one (.v (.int .i64 ((n % 2 : Nat) : Int))))) rfl ?_
    refine mV hTT (.d (.one (.v (.bool (((n % 2 : Nat) : Int) == 0))))) rfl ?_
    refine mNil ?_
    refine tN ?_
    refine cCond rfl (fun hc2 => ?_) (fun hc2 => ?_)
    · skip
      refine cSeq ?_
      refine cReg ?_
      refine mV hTT _ rfl ?_
      refine mV hTT (.d (.one (.v (.int .i64 (IntKind.i64.wrap (0 - (sgn (Rat.num ((rc c) (n - 1)))))))))) rfl ?_
      refine mV hTT _ rfl ?_
      refine mV hTT _ rfl ?_
      refine mV hTT _ rfl ?_
      refine mNil ?_
      refine tN ?_
      refine cRet ?_
      refine tR ?_
      exact rQ rfl (le_tup (dl (dle (le_int (by have h9 : (rc c (n - 1)).num = c (n - 1) := Rat.num_intCast _; rw [if_neg hn0, if_pos (by have h0 := eq_of_beq hc2; omega), h9, wr64 (by have := sgn_bd (c (n - 1)); omega) (by have := sgn_bd (c (n - 1)); omega)]; omega))) (dl (dle (le_int (by have h9 : (rc c (n - 1)).num = c (n - 1) := Rat.num_intCast _; rw [if_neg hn0, h9]))) dl0)))
    · skip
      refine cSkip ?_
      refine tN ?_
      refine cSeq ?_
      refine cReg ?_
      refine mV hTT _ rfl ?_
      refine mV hTT _ rfl ?_
      refine mV hTT _ rfl ?_
      refine mV hTT _ rfl ?_
      refine mNil ?_
      refine tN ?_
      refine cRet ?_
      exact rQ rfl (le_tup (dl (dle (le_int (by have h9 : (rc c (n - 1)).num = c (n - 1) := Rat.num_intCast _; rw [if_neg hn0, if_neg (by have h0 := ne_of_beq_false hc2; omega), h9]))) (dl (dle (le_int (by have h9 : (rc c (n - 1)).num = c (n - 1) := Rat.num_intCast _; rw [if_neg hn0, h9]))) dl0)))

end Go.Proofs.Ytnnpjkalkfoolaa

/-
  PLAIN LAW of chapter 5: Horner's rule gives the value; values of products. No condition; nothing of the program.
-/
set_option linter.unusedVariables false
set_option linter.unusedSimpArgs false
namespace Go.Proofs.Ytnnpjkalkfoolaa
open Go.RowKit

theorem pow_ne_int {y : Int} (h : y ≠ 0) : ∀ s : Nat, ¬ y ^ s = 0
  | 0 => by rw [Int.pow_zero]; decide
  | s + 1 => by rw [Int.pow_succ]; exact Int.mul_ne_zero (pow_ne_int h s) h
theorem num_den (q : Rat) : q * ((q.den : Int) : Rat) = (q.num : Rat) := by
  have h := mkR_div (x := q.num) (y := (q.den : Int)) (den_ne q)
  rw [mkR_ne (den_ne q), Rat.num_divInt_den] at h
  exact h
theorem vl_hv {a : Nat → Int} {q : Rat} {top : Nat} : ∀ s, ((vlZ a q.num (q.den : Int) top s : Int) : Rat) * ((q.den : Int) : Rat) = ((q.den : Int) : Rat) ^ s * vlQ (rc a) q top s
  | 0 => by show ((0 : Int) : Rat) * _ = _ * (0 : Rat); rw [Rat.mul_zero]; exact Rat.zero_mul _
  | s + 1 => by
    have h0 := vl_hv (a := a) (q := q) (top := top) s
    have hq := num_den q
    show ((vlZ a q.num (q.den : Int) top s * q.num + a (top - 1 - s) * (q.den : Int) ^ s : Int) : Rat) * ((q.den : Int) : Rat) = ((q.den : Int) : Rat) ^ (s + 1) * (vlQ (rc a) q top s * q + rc a (top - 1 - s))
    have hrc : rc a (top - 1 - s) = ((a (top - 1 - s) : Int) : Rat) := rfl
    rw [hrc, Rat.intCast_add, Rat.intCast_mul, Rat.intCast_mul, cast_pow, Rat.pow_succ]
    grind
/-- The value, as the program reckons it. -/
theorem vl_end {a : Nat → Int} {q : Rat} (n : Nat) : Rat.divInt (vlZ a q.num (q.den : Int) n n) ((q.den : Int) ^ (n - 1)) = vlQ (rc a) q n n := by
  have hd : (q.den : Int) ≠ 0 := den_ne q
  have hy : ¬ (q.den : Int) ^ (n - 1) = 0 := pow_ne_int hd _
  have h1 := mkR_div (x := vlZ a q.num (q.den : Int) n n) hy
  rw [mkR_ne hy] at h1
  have h2 := vl_hv (a := a) (q := q) (top := n) n
  have hdr : ((q.den : Int) : Rat) ≠ 0 := fun e => hd (Rat.intCast_eq_zero_iff.1 e)
  have hpr : ((q.den : Int) : Rat) ^ (n - 1) ≠ 0 := pow_ne hdr _
  rw [cast_pow] at h1
  cases n with
  | zero =>
    rw [show (0 : Nat) - 1 = 0 from rfl, Rat.pow_zero, Rat.mul_one] at h1
    rw [show (0 : Nat) - 1 = 0 from rfl]
    rw [h1]; rfl
  | succ s =>
    rw [Nat.add_sub_cancel] at h1 hpr ⊢
    rw [Rat.pow_succ] at h2
    grind
end Go.Proofs.Ytnnpjkalkfoolaa

/-
  VALUES of polynomials, by the machine (2): At; keep.Rat.
-/
set_option linter.unusedVariables false
set_option linter.unusedSimpArgs false
namespace Go.Proofs.Ytnnpjkalkfoolaa
open Go.RowKit

set_option maxRecDepth 100000 in
set_option maxHeartbeats 4000000 in
theorem aPVal {a : Lf} {b : List Lf} {K L M N n D T : Nat} {c : Nat → Int} {nn dd : Int} (ha : IsP a K n c) (hb : IsT b L nn dd) (hn : n ≤ D) (hDD : D ≤ 200 := by decide) (hT : K + (max L 2 + 1) + (max L 2 + 1) + 5 ≤ T := by decide) (hM : (D + 1) * T ≤ M := by decide) (hP : 2 + D * (max L 2 + 1) ≤ M := by decide) (hN : M + 1 ≤ N := by decide) (hNN : N ≤ 100000000 := by decide) (hL : L ≤ 1000000 := by decide) (hK : K ≤ 1000000 := by decide) : ACall Try.prog 56 [.one a, .agg b] (.d (.agg (tn N (vlQ (rc c) (mkR nn dd) (dg c n) (dg c n))))) := by
  obtain ⟨⟨fa, ha, ea⟩, za⟩ := ha
  obtain ⟨s0, xs0, t0, ys0, hb, e0, k0⟩ := hb
  refine ACall.le (dl (DV.l ha) (dl (DV.g hb) dl0)) AV.le.rfl ?_
  have hla := dg_le c n
  refine acallN hTT 31 [.cell 4 73] Try.func56 rfl rfl rfl rfl rfl ?_
  refine cSeq ?_
  refine cReg ?_
  refine mN hTT (.box 73 ([.v (.bool s0), lr L xs0] ++ [.v (.bool t0), lr L ys0])) rfl rfl rfl ?_
  refine mN hTT (.box 73 ([.v (.bool false), .v (.slice none 0 0), .v (.bool false), .v (.slice none 0 0)])) rfl rfl rfl ?_
  refine mNil ?_
  refine tN ?_
  refine cSeq ?_
  refine cDrawK hTT 5 (by kernel_rfl) (by kernel_rfl) (by kernel_rfl) ?_
  refine .cons (OpS.V _ rfl) ?_
  refine .cons (OpS.C0 (aPNorm (⟨⟨fa, fun _ _ _ h => h, ea⟩, za⟩ : IsP (arow K n fa) K n c) (by omega) (by omega)) rfl rfl rfl) ?_
  refine .cons (OpS.V (.d (.agg ([.v (.bool s0), lr L xs0] ++ [.v (.bool t0), lr L ys0]))) rfl) ?_
  refine .cons (OpS.C0 (aPlain (⟨s0, xs0, t0, ys0, fun _ _ _ h => h, e0, k0⟩ : IsT ([.v (.bool s0), lr L xs0] ++ [.v (.bool t0), lr L ys0]) L nn dd) (M := (max L 2 + 1)) (by omega) (by omega)) rfl rfl rfl) ?_
  refine .cons (OpS.V _ rfl) ?_
  refine .nil ?_
  refine mS hTT 3 (.box 73 (tn (max L 2 + 1) (mkR nn dd))) rfl ?_
  refine mNil ?_
  refine tN ?_
  refine cSeq ?_
  have hMb : T ≤ M := Nat.le_trans (Nat.le_mul_of_pos_left T (by omega)) hM
  have hkt : ((dg c n : Int) - 1).toNat = dg c n - 1 := by omega
  have hkp : ((dg c n : Int) - 1).toNat * (max L 2 + 1) ≤ D * (max L 2 + 1) := Nat.mul_le_mul_right _ (by omega)
  refine cDrawS hTT 19 (by kernel_rfl) (by kernel_rfl) ?_
  refine .cons (OpS.V _ rfl) (by kernel_rfl) ?_
  refine .cons (OpS.V (.ptr 3 0) rfl) (by kernel_rfl) ?_
  refine .cons (OpS.V (.d (.agg (zn (max L 2 + 1) (Rat.num (mkR nn dd))))) rfl) (by kernel_rfl) ?_
  refine .cons (OpS.V (.ptr 3 2) rfl) (by kernel_rfl) ?_
  refine .cons (OpS.V (.d (.agg (zn (max L 2 + 1) (Rat.den (mkR nn dd) : Int)))) rfl) (by kernel_rfl) ?_
  refine .cons (OpS.C0 (aPValue (isp (K := K) (c := c) (dg_z za)) (isz (max L 2 + 1) (Rat.num (mkR nn dd))) (isz (max L 2 + 1) (Rat.den (mkR nn dd) : Int)) (D := D) (T := T) (M := M) (by omega) (by omega) hT hM (by omega)) rfl rfl rfl) (by kernel_rfl) ?_
  refine .cons (OpS.V (.ptr 3 2) rfl) (by kernel_rfl) ?_
  refine .cons (OpS.V (.d (.agg (zn (max L 2 + 1) (Rat.den (mkR nn dd) : Int)))) rfl) (by kernel_rfl) ?_
  refine .cons (OpS.V _ rfl) (by kernel_rfl) ?_
  refine .cons (OpS.V (.d (.one (.v (.int .i64 ((dg c n : Nat) : Int))))) rfl) (by kernel_rfl) ?_
  refine .cons (OpS.V (.d (.one (.v (.int .i64 ((dg c n : Int) - 1))))) (evi (wr64 (by omega) (by omega)))) (by kernel_rfl) ?_
  refine .cons (OpS.C0 (aPow (isz (max L 2 + 1) (Rat.den (mkR nn dd) : Int)) (k := ((dg c n : Int) - 1)) (M := M) (by omega) (by omega) (by omega) (by omega)) rfl rfl rfl) (by kernel_rfl) ?_
  refine .cons (OpS.C0 (aTMake (isz M (vlZ c (Rat.num (mkR nn dd)) (Rat.den (mkR nn dd) : Int) (dg c n) (dg c n))) (isz M ((Rat.den (mkR nn dd) : Int) ^ (((dg c n : Int) - 1)).toNat)) (pow_ne_int (den_ne (mkR nn dd)) _) (M := (max (max M M) 1 + 1)) (by omega) (by omega)) rfl rfl rfl) (by kernel_rfl) ?_
  refine .cons (OpS.V _ rfl) (by kernel_rfl) ?_
  refine .cons (OpS.V _ rfl) (by kernel_rfl) ?_
  refine .cons (OpS.V _ rfl) (by kernel_rfl) ?_
  refine .cons (OpS.N (.box 73 ([.v (.bool false), .v (.slice none 0 0), .v (.bool false), .v (.slice none 0 0)])) rfl 5 rfl rfl) (by kernel_rfl) ?_
  refine .cons (OpS.S 5 (.box 73 (tn (max (max M M) 1 + 1) (Rat.divInt (vlZ c (Rat.num (mkR nn dd)) (Rat.den (mkR nn dd) : Int) (dg c n) (dg c n)) ((Rat.den (mkR nn dd) : Int) ^ (((dg c n : Int) - 1)).toNat)))) rfl rfl) (by kernel_rfl) ?_
  refine .cons (OpS.V _ rfl) (by kernel_rfl) ?_
  refine .nil ?_
  refine mNil ?_
  refine tN ?_
  refine cSeq ?_
  refine cSeq ?_
  refine cReg ?_
  refine mV hTT _ rfl ?_
  refine mV hTT (.d (.one (.v (.bool false)))) rfl ?_
  refine mNil ?_
  refine tN ?_
  refine cF rfl ?_
  refine cSkip ?_
  refine tN ?_
  refine cSeq ?_
  refine cReg ?_
  refine mV hTT (.d (.agg (tn (max (max M M) 1 + 1) (Rat.divInt (vlZ c (Rat.num (mkR nn dd)) (Rat.den (mkR nn dd) : Int) (dg c n) (dg c n)) ((Rat.den (mkR nn dd) : Int) ^ (((dg c n : Int) - 1)).toNat))))) rfl ?_
  refine mS hTT 4 (.box 73 (tn (max (max M M) 1 + 1) (Rat.divInt (vlZ c (Rat.num (mkR nn dd)) (Rat.den (mkR nn dd) : Int) (dg c n) (dg c n)) ((Rat.den (mkR nn dd) : Int) ^ (((dg c n : Int) - 1)).toNat)))) rfl ?_
  refine mNil ?_
  refine tN ?_
  refine cRet ?_
  exact rQ rfl (le_tn (by omega) (by rw [hkt]; exact vl_end _))

set_option maxRecDepth 100000 in
set_option maxHeartbeats 4000000 in
theorem aKRat {K k : Nat} {s t : Bool} {xs ys : List Nat} (hk : k ≤ 1000000 := by decide) (hK : K ≤ 9223372036854775807 := by decide) : ACall Try.prog 53 [.agg ([.v (.bool s), lr K xs] ++ [.v (.bool t), lr K ys]), .one (.v (.int .i64 (k : Int)))] (.d (.agg ([.v (.bool s), lr k (xs.take k)] ++ [.v (.bool t), lr k (ys.take k)]))) := by
  refine acallN hTT 14 [.cell 4 73] Try.func53 rfl rfl rfl rfl rfl ?_
  refine cSeq ?_
  refine cReg ?_
  refine mN hTT (.box 73 ([.v (.bool s), lr K xs] ++ [.v (.bool t), lr K ys])) rfl rfl rfl ?_
  refine mN hTT (.box 73 ([.v (.bool false), .v (.slice none 0 0), .v (.bool false), .v (.slice none 0 0)])) rfl rfl rfl ?_
  refine mNil ?_
  refine tN ?_
  refine cSeq ?_
  refine cDrawK hTT 9 (by kernel_rfl) (by kernel_rfl) (by kernel_rfl) ?_
  refine .cons (OpS.V (.ptr 2 0) rfl) ?_
  refine .cons (OpS.V (.d (.agg ([.v (.bool s), lr K xs]))) rfl) ?_
  refine .cons (OpS.V _ rfl) ?_
  refine .cons (OpS.C0 (aKInt (K := K) (k := k) (s := s) (xs := xs) (by omega) (by omega)) rfl rfl rfl) ?_
  refine .cons (OpS.V (.ptr 2 2) rfl) ?_
  refine .cons (OpS.V (.d (.agg ([.v (.bool t), lr K ys]))) rfl) ?_
  refine .cons (OpS.V _ rfl) ?_
  refine .cons (OpS.C0 (aKInt (K := K) (k := k) (s := t) (xs := ys) (by omega) (by omega)) rfl rfl rfl) ?_
  refine .cons (OpS.V (.d (.agg ([.v (.bool s), lr k (xs.take k)] ++ [.v (.bool t), lr k (ys.take k)]))) rfl) ?_
  refine .nil ?_
  refine mS hTT 4 (.box 73 ([.v (.bool s), lr k (xs.take k)] ++ [.v (.bool t), lr k (ys.take k)])) rfl ?_
  refine mNil ?_
  refine tN ?_
  refine cRet ?_
  exact rQ rfl (AV.le.rfl)

end Go.Proofs.Ytnnpjkalkfoolaa

/-
  PLAIN LAW of chapter 5: values of polynomials; polynomials that have one value everywhere are one. No condition; nothing of the program.
-/
set_option linter.unusedVariables false
set_option linter.unusedSimpArgs false
namespace Go.Proofs.Ytnnpjkalkfoolaa
open Go.RowKit

/-- The value: the sum of the terms. -/
def pe (a : Nat → Rat) (q : Rat) : Nat → Rat
  | 0 => 0
  | n + 1 => pe a q n + a n * q ^ n
theorem pe_hor {a : Nat → Rat} {q : Rat} {top : Nat} : ∀ s, s ≤ top → pe a q top = pe a q (top - s) + q ^ (top - s) * vlQ a q top s
  | 0, _ => by show _ = pe a q (top - 0) + _ * (0 : Rat); rw [Nat.sub_zero, Rat.mul_zero, Rat.add_zero]
  | s + 1, h => by
    rw [pe_hor s (by omega)]
    have e : top - s = (top - (s + 1)) + 1 := by omega
    show _ = _ + _ * (vlQ a q top s * q + a (top - 1 - s))
    rw [e, show top - 1 - s = top - (s + 1) by omega]
    show pe a q (top - (s + 1)) + a (top - (s + 1)) * q ^ (top - (s + 1)) + _ = _
    rw [Rat.pow_succ]
    grind
theorem pe_vl (a : Nat → Rat) (q : Rat) (n : Nat) : vlQ a q n n = pe a q n := by
  have h := pe_hor (a := a) (q := q) (top := n) n (Nat.le_refl _)
  rw [Nat.sub_self] at h
  rw [h]
  show _ = (0 : Rat) + _
  rw [Rat.pow_zero, Rat.one_mul, Rat.zero_add]
theorem pe_congr {a b : Nat → Rat} {q : Rat} : ∀ {n : Nat}, (∀ i, i < n → a i = b i) → pe a q n = pe b q n
  | 0, _ => rfl
  | n + 1, h => by show _ + _ = _ + _; rw [pe_congr (n := n) fun i hi => h i (by omega), h n (by omega)]
theorem pe_more {a : Nat → Rat} {q : Rat} {n : Nat} (h : ∀ i, n ≤ i → a i = 0) : ∀ d, pe a q (n + d) = pe a q n
  | 0 => rfl
  | d + 1 => by show pe a q (n + d) + a (n + d) * _ = _; rw [pe_more h d, h (n + d) (by omega), Rat.zero_mul, Rat.add_zero]
theorem pe_eq {a : Nat → Rat} {q : Rat} {n m : Nat} (h : ∀ i, n ≤ i → a i = 0) (k : ∀ i, m ≤ i → a i = 0) : pe a q n = pe a q m := by
  rcases Nat.le_total n m with e | e
  · have := pe_more (q := q) h (m - n); rw [show n + (m - n) = m by omega] at this; exact this.symm
  · have := pe_more (q := q) k (n - m); rw [show m + (n - m) = n by omega] at this; exact this
theorem pe_add {a b : Nat → Rat} {q : Rat} : ∀ n, pe (faddQ a b) q n = pe a q n + pe b q n
  | 0 => by show (0 : Rat) = 0 + 0; grind
  | n + 1 => by show pe (faddQ a b) q n + (a n + b n) * q ^ n = (pe a q n + _) + (pe b q n + _); rw [pe_add n]; grind
theorem pe_scl {a : Nat → Rat} {q r : Rat} : ∀ n, pe (fsclQ a r) q n = pe a q n * r
  | 0 => by show (0 : Rat) = 0 * r; grind
  | n + 1 => by show pe (fsclQ a r) q n + (a n * r) * q ^ n = (pe a q n + _) * r; rw [pe_scl n]; grind
theorem pe_zero {a : Nat → Rat} {q : Rat} : ∀ {n : Nat}, (∀ i, i < n → a i = 0) → pe a q n = 0
  | 0, _ => rfl
  | n + 1, h => by show _ + _ = _; rw [pe_zero (n := n) fun i hi => h i (by omega), h n (by omega), Rat.zero_mul, Rat.add_zero]
theorem pow_addQ (q : Rat) (k : Nat) : ∀ m : Nat, q ^ (k + m) = q ^ k * q ^ m
  | 0 => by rw [Nat.add_zero, Rat.pow_zero, Rat.mul_one]
  | m + 1 => by rw [← Nat.add_assoc, Rat.pow_succ, Rat.pow_succ, pow_addQ q k m, Rat.mul_assoc]
theorem pe_shift {b : Nat → Rat} {q x : Rat} {k : Nat} : ∀ m, pe (fun j => if k ≤ j then x * b (j - k) else 0) q (k + m) = x * q ^ k * pe b q m
  | 0 => by
    show _ = x * q ^ k * (0 : Rat)
    rw [Rat.mul_zero]
    exact pe_zero fun i hi => if_neg (by omega)
  | m + 1 => by
    show pe _ q (k + m) + (if k ≤ k + m then x * b (k + m - k) else 0) * q ^ (k + m) = x * q ^ k * (pe b q m + b m * q ^ m)
    rw [pe_shift m, if_pos (by omega), Nat.add_sub_cancel_left, pow_addQ]
    grind
theorem pe_cv {a b : Nat → Rat} {q : Rat} {m : Nat} (hb : ∀ i, m ≤ i → b i = 0) : ∀ k, pe (cv a b k) q (k + m) = pe a q k * pe b q m
  | 0 => by
    show _ = (0 : Rat) * _
    rw [Rat.zero_mul]
    exact pe_zero fun i hi => rfl
  | k + 1 => by
    have h1 : pe (cv a b (k + 1)) q (k + 1 + m) = pe (faddQ (cv a b k) (fun j => if k ≤ j then a k * b (j - k) else 0)) q (k + 1 + m) := pe_congr fun i hi => rfl
    rw [h1, pe_add, show k + 1 + m = (k + m) + 1 by omega]
    have h2 : pe (cv a b k) q (k + m + 1) = pe (cv a b k) q (k + m) := pe_more (n := k + m) (fun i hi => conv_zQ fun j hj hji => by rw [hb (i - j) (by omega), Rat.mul_zero]) 1
    rw [h2, pe_cv hb k]
    have h3 := pe_shift (b := b) (q := q) (x := a k) (k := k) (m + 1)
    rw [← Nat.add_assoc] at h3
    rw [h3]
    show _ = (pe a q k + a k * q ^ k) * _
    have h4 : pe b q (m + 1) = pe b q m := pe_more hb 1
    rw [h4]
    grind
/-- The product's value. -/
theorem pe_conv {a b : Nat → Rat} {q : Rat} {n m : Nat} (ha : ∀ i, n ≤ i → a i = 0) (hb : ∀ i, m ≤ i → b i = 0) : pe (conv a b) q (n + m) = pe a q n * pe b q m := by
  rw [← pe_cv hb n]
  exact pe_congr fun i hi => (cv_convQ ha).symm
/-- The value of a row of whole numbers. -/
def pz (c : Nat → Int) (q : Rat) (n : Nat) : Rat := pe (rc c) q n
theorem pz_eq {c : Nat → Int} {q : Rat} {n m : Nat} (h : ∀ i, n ≤ i → c i = 0) (k : ∀ i, m ≤ i → c i = 0) : pz c q n = pz c q m := pe_eq (rc_z h) (rc_z k)
theorem pz_conv {a b : Nat → Int} {q : Rat} {n m p : Nat} (ha : ∀ i, n ≤ i → a i = 0) (hb : ∀ i, m ≤ i → b i = 0) (hp : ∀ i, p ≤ i → conv a b i = 0) : pz (conv a b) q p = pz a q n * pz b q m := by
  rw [pz_eq hp (conv_z0 ha hb)]
  show pe _ q _ = _
  rw [pe_congr (b := conv (rc a) (rc b)) fun i _ => (rc_conv a b i).symm]
  exact pe_conv (rc_z ha) (rc_z hb)
theorem pz_scl {a : Nat → Int} {q : Rat} {n : Nat} (y : Int) : pz (fscl a y) q n = pz a q n * (y : Rat) := by
  show pe _ q _ = _
  rw [pe_congr (a := rc (fscl a y)) (b := fsclQ (rc a) (y : Rat)) fun i _ => Rat.intCast_mul _ _]
  exact pe_scl n
theorem pz_vl (c : Nat → Int) (q : Rat) (n : Nat) : vlQ (rc c) q n n = pz c q n := pe_vl _ _ _

/-! ### Moved -/
theorem pe_hv {a : Nat → Rat} {r q : Rat} {top : Nat} : ∀ s, pe (hvQ a r top s) q s = vlQ a (q + r) top s
  | 0 => rfl
  | s + 1 => by
    show pe (faddQ (conv (hvQ a r top s) (linQ r (((1 : Int) : Int) : Rat))) (oneQ (a (top - 1 - s)))) q (s + 1) = vlQ a (q + r) top s * (q + r) + a (top - 1 - s)
    rw [pe_add]
    have h1 : pe (conv (hvQ a r top s) (linQ r (((1 : Int) : Int) : Rat))) q (s + 1) = pe (conv (hvQ a r top s) (linQ r (((1 : Int) : Int) : Rat))) q (s + 2) := pe_eq (fun i hi => conv_beyondQ (hvQ_z s) linQ_z (by omega)) (fun i hi => conv_beyondQ (hvQ_z s) linQ_z (by omega))
    rw [h1, pe_conv (hvQ_z s) linQ_z, pe_hv s]
    have h2 : pe (linQ r (((1 : Int) : Int) : Rat)) q 2 = q + r := by
      show (0 : Rat) + linQ r _ 0 * q ^ 0 + linQ r _ 1 * q ^ 1 = _
      rw [show linQ r (((1 : Int) : Int) : Rat) 0 = r from rfl, show linQ r (((1 : Int) : Int) : Rat) 1 = 1 from rfl, Rat.pow_zero, Rat.pow_succ, Rat.pow_zero]
      grind
    have h3 : pe (oneQ (a (top - 1 - s))) q (s + 1) = a (top - 1 - s) := by
      rw [pe_eq (m := 1) (fun i hi => oneQ_z i (by omega)) oneQ_z]
      show (0 : Rat) + a (top - 1 - s) * q ^ 0 = _
      rw [Rat.pow_zero]; grind
    rw [h2, h3]
/-- One that is moved has its values at the place moved from, but for a power of the denominator. -/
theorem pz_mv {a : Nat → Int} {x y : Int} {q : Rat} {n : Nat} (hy : ¬ y = 0) : pz (mvZ a x y n n) q n = (y : Rat) ^ (n - 1) * pz a (q + mkR x y) n := by
  have h1 : pz (mvZ a x y n n) q n = pe (fsclQ (hvQ (rc a) (mkR x y) n n) ((y : Rat) ^ (n - 1))) q n := pe_congr fun i _ => by
    rw [← mv_end (a := a) (x := x) (n := n) hy i, scQ_pow, mkR_int]; rfl
  rw [h1, pe_scl, pe_hv, pz_vl, Rat.mul_comm]

/-! ### Far out -/
theorem sgn_pos {d : Int} (h : 0 < d) : sgn d = 1 := by unfold sgn; rw [if_neg (by omega), if_neg (by omega)]
theorem sgn_neg {d : Int} (h : d < 0) : sgn d = -1 := by unfold sgn; rw [if_pos h]
theorem sgn_zero : sgn 0 = 0 := rfl
theorem sgn_mul (a b : Int) : sgn (a * b) = sgn a * sgn b := by
  rcases Int.lt_trichotomy a 0 with ha | ha | ha
  · rcases Int.lt_trichotomy b 0 with hb | hb | hb
    · rw [sgn_neg ha, sgn_neg hb, sgn_pos (Int.mul_pos_of_neg_of_neg ha hb)]; rfl
    · rw [hb, Int.mul_zero, sgn_zero, Int.mul_zero]
    · rw [sgn_neg ha, sgn_pos hb, sgn_neg (Int.mul_neg_of_neg_of_pos ha hb)]; rfl
  · rw [ha, Int.zero_mul, sgn_zero, Int.zero_mul]
  · rcases Int.lt_trichotomy b 0 with hb | hb | hb
    · rw [sgn_pos ha, sgn_neg hb, sgn_neg (Int.mul_neg_of_pos_of_neg ha hb)]; rfl
    · rw [hb, Int.mul_zero, sgn_zero, Int.mul_zero]
    · rw [sgn_pos ha, sgn_pos hb, sgn_pos (Int.mul_pos ha hb)]; rfl
theorem sgn_far {v x c : Int} (hv : v ≠ 0) (h : c.natAbs < x.natAbs) : sgn (v * x + c) = sgn v * sgn x := by
  rw [← sgn_mul]
  have h1 : x.natAbs ≤ (v * x).natAbs := by rw [Int.natAbs_mul]; exact Nat.le_mul_of_pos_left _ (Int.natAbs_pos.2 hv)
  rcases Int.lt_trichotomy (v * x) 0 with e | e | e
  · rw [sgn_neg e, sgn_neg (by omega)]
  · rw [e] at h1; have : (0 : Int).natAbs = 0 := rfl; omega
  · rw [sgn_pos e, sgn_pos (by omega)]
theorem sgn_ne {z : Int} : sgn z ≠ 0 ↔ z ≠ 0 := by unfold sgn; constructor <;> intro h <;> (repeat' split at *) <;> omega
theorem far_sgn {c : Nat → Int} {x : Int} {top : Nat} (h : ∀ i, i < top → (c i).natAbs < x.natAbs) (h0 : c (top - 1) ≠ 0) : ∀ s, s < top → sgn (vlZ c x 1 top (s + 1)) = sgn (c (top - 1)) * (sgn x) ^ s
  | 0, hs => by
    show sgn (0 * x + c (top - 1 - 0) * 1 ^ 0) = _
    rw [Int.zero_mul, Int.zero_add, Int.pow_zero, Int.mul_one, Int.pow_zero, Int.mul_one, Nat.sub_zero]
  | s + 1, hs => by
    have ih := far_sgn h h0 s (by omega)
    have hx : x ≠ 0 := by have := h 0 (by omega); omega
    have hv : vlZ c x 1 top (s + 1) ≠ 0 := by
      rw [← sgn_ne, ih]
      exact Int.mul_ne_zero (sgn_ne.2 h0) (pow_ne_int (sgn_ne.2 hx) s)
    show sgn (vlZ c x 1 top (s + 1) * x + c (top - 1 - (s + 1)) * 1 ^ (s + 1)) = _
    rw [Int.one_pow, Int.mul_one, sgn_far hv (h _ (by omega)), ih, Int.pow_succ, Int.mul_assoc]
theorem vl_one {a : Nat → Int} {x : Int} {top : Nat} : ∀ s, ((vlZ a x 1 top s : Int) : Rat) = vlQ (rc a) (x : Rat) top s
  | 0 => rfl
  | s + 1 => by
    show ((vlZ a x 1 top s * x + a (top - 1 - s) * 1 ^ s : Int) : Rat) = vlQ (rc a) (x : Rat) top s * (x : Rat) + rc a (top - 1 - s)
    rw [Int.one_pow, Int.mul_one, Rat.intCast_add, Rat.intCast_mul, vl_one s]; rfl
/-- The sum of all sizes. -/
def szs (c : Nat → Int) : Nat → Int
  | 0 => 0
  | n + 1 => szs c n + ((c n).natAbs : Int)
theorem szs_nn (c : Nat → Int) : ∀ n, 0 ≤ szs c n
  | 0 => Int.le_refl _
  | n + 1 => by show 0 ≤ szs c n + _; have := szs_nn c n; omega
theorem szs_le {c : Nat → Int} : ∀ {n i : Nat}, i < n → ((c i).natAbs : Int) ≤ szs c n
  | n + 1, i, h => by
    show _ ≤ szs c n + _
    have := szs_nn c n
    rcases Nat.eq_or_lt_of_le (Nat.le_of_lt_succ h) with e | e
    · subst e; omega
    · have := szs_le (c := c) e; omega
/-- Rows that are 0 everywhere. -/
theorem pz_zero {c : Nat → Int} {n : Nat} (hz : ∀ i, n ≤ i → c i = 0) (h : ∀ x : Int, pz c (x : Rat) n = 0) : ∀ i, c i = 0 := by
  have hd : dg c n = 0 := by
    refine Classical.byContradiction fun hne => ?_
    have h0 := dg_ne hne
    let m := dg c n
    have h1 := far_sgn (c := c) (x := 1 + szs c m) (top := m) (fun i hi => by have := szs_le (c := c) hi; have := szs_nn c m; omega) h0 (m - 1) (by omega)
    rw [show m - 1 + 1 = m by omega] at h1
    have h2 : vlZ c (1 + szs c m) 1 m m = 0 := by
      have h3 := vl_one (a := c) (x := 1 + szs c m) (top := m) m
      rw [pz_vl, pz_eq (dg_z hz) hz, h] at h3
      exact Rat.intCast_eq_zero_iff.1 h3
    rw [h2] at h1
    have hx : (1 + szs c m) ≠ 0 := by have := szs_nn c m; omega
    exact Int.mul_ne_zero (sgn_ne.2 h0) (pow_ne_int (sgn_ne.2 hx) (m - 1)) h1.symm
  exact dg_all hz hd
theorem pz_sub {a b : Nat → Int} {q : Rat} {n : Nat} : pz (fsub a b) q n = pz a q n - pz b q n := by
  have h : pe (faddQ (rc a) (fsclQ (rc b) (-1))) q n = pz (fsub a b) q n := pe_congr fun i _ => by
    show rc a i + rc b i * (-1) = ((a i - b i : Int) : Rat)
    rw [Rat.intCast_sub]; show (a i : Rat) + (b i : Rat) * (-1) = _; grind
  rw [← h, pe_add, pe_scl]
  show _ = pe (rc a) q n - pe (rc b) q n
  grind
/-- THE LAW OF ONE: rows that have one value at all whole numbers are one. -/
theorem pz_one {a b : Nat → Int} {n m : Nat} (ha : ∀ i, n ≤ i → a i = 0) (hb : ∀ i, m ≤ i → b i = 0) (h : ∀ x : Int, pz a (x : Rat) n = pz b (x : Rat) m) : ∀ i, a i = b i := by
  have hz : ∀ i, max n m ≤ i → fsub a b i = 0 := fsub_z ha hb
  have h1 := pz_zero hz (fun x => by
    rw [pz_sub, pz_eq (c := a) (n := max n m) (m := n) (fun i hi => ha i (by omega)) ha, pz_eq (c := b) (n := max n m) (m := m) (fun i hi => hb i (by omega)) hb, h]
    grind)
  intro i
  have := h1 i
  unfold fsub at this
  omega
/-- The leading coefficient of one that is moved. -/
theorem mv_top {a : Nat → Int} {x y : Int} {top : Nat} : ∀ s, mvZ a x y top (s + 1) s = a (top - 1) * y ^ s
  | 0 => by
    show conv (fun _ => 0) (lin x y) 0 + onez (a (top - 1 - 0) * y ^ 0) 0 = _
    rw [conv_lin]
    show 0 * x + 0 + a (top - 1 - 0) * y ^ 0 = _
    rw [Nat.sub_zero]; omega
  | s + 1 => by
    show conv (mvZ a x y top (s + 1)) (lin x y) (s + 1) + onez _ (s + 1) = _
    rw [conv_lin, mvZ_z (s + 1) (s + 1) (Nat.le_refl _), onez_z (s + 1) (by omega), if_neg (by omega), Nat.add_sub_cancel, mv_top s, Int.pow_succ, Int.mul_assoc]
    omega
/-- The derivative of a product. -/
theorem der_conv (a b : Nat → Int) (j : Nat) : fder (conv a b) j = fadd (conv (fder a) b) (conv a (fder b)) j := by
  have h1 : conv (fder a) b j = sm (fun i => (a i * (i : Int)) * b (j + 1 - i)) (j + 2) := by
    rw [conv_sm, show j + 2 = (j + 1) + 1 by omega, sm_first (f := fun i => (a i * (i : Int)) * b (j + 1 - i)) (j + 1)]
    show _ = (a 0 * ((0 : Nat) : Int)) * _ + _
    rw [Int.natCast_zero, Int.mul_zero, Int.zero_mul, Int.zero_add]
    exact sm_congr fun i hi => by show (a (i + 1) * ((i + 1 : Nat) : Int)) * b (j - i) = _; rw [show j + 1 - (i + 1) = j - i by omega]
  have h2 : conv a (fder b) j = sm (fun i => a i * (b (j + 1 - i) * ((j + 1 - i : Nat) : Int))) (j + 2) := by
    rw [conv_sm]
    show _ = sm (fun i => a i * (b (j + 1 - i) * ((j + 1 - i : Nat) : Int))) (j + 1) + a (j + 1) * (b (j + 1 - (j + 1)) * ((j + 1 - (j + 1) : Nat) : Int))
    rw [Nat.sub_self, Int.natCast_zero, Int.mul_zero, Int.mul_zero, Int.add_zero]
    exact sm_congr fun i hi => by show a i * (b (j - i + 1) * ((j - i + 1 : Nat) : Int)) = _; rw [show j + 1 - i = j - i + 1 by omega]
  show conv a b (j + 1) * ((j + 1 : Nat) : Int) = conv (fder a) b j + conv a (fder b) j
  rw [h1, h2, ← sm_add, conv_sm, ← sm_mul_r]
  refine sm_congr fun i hi => ?_
  have e : ((j + 1 : Nat) : Int) = (i : Int) + ((j + 1 - i : Nat) : Int) := by omega
  show a i * b (j + 1 - i) * ((j + 1 : Nat) : Int) = a i * (i : Int) * b (j + 1 - i) + a i * (b (j + 1 - i) * ((j + 1 - i : Nat) : Int))
  rw [e]
  grind
/-- Moved there and back. -/
theorem mv_back {a : Nat → Int} {x y : Int} {n : Nat} (hy : ¬ y = 0) (hz : ∀ i, n ≤ i → a i = 0) (i : Nat) : mvZ (mvZ a x y n n) (-x) y n n i = fscl a (y ^ (2 * (n - 1))) i := by
  refine pz_one (mvZ_z n) (fscl_z hz) (fun t => ?_) i
  rw [pz_mv hy, pz_mv hy, pz_scl]
  have hm : mkR (-x) y + mkR x y = 0 := by
    have hy' : (y : Rat) ≠ 0 := fun e => hy (Rat.intCast_eq_zero_iff.1 e)
    have h1 := mkR_div (x := -x) hy
    have h2 := mkR_div (x := x) hy
    rw [Rat.intCast_neg] at h1
    grind
  rw [show ((t : Rat) + mkR (-x) y + mkR x y) = (t : Rat) by grind, cast_pow, show 2 * (n - 1) = (n - 1) + (n - 1) by omega, pow_addQ]
  grind
theorem mkR_self (q : Rat) : mkR q.num (q.den : Int) = q := by rw [mkR_ne (den_ne q), Rat.num_divInt_den]
theorem neg1_pow : ∀ s : Nat, (-1 : Int) ^ s = if s % 2 = 0 then 1 else -1
  | 0 => rfl
  | s + 1 => by
    rw [Int.pow_succ, neg1_pow s]
    by_cases h : s % 2 = 0
    · rw [if_pos h, if_neg (by omega)]; rfl
    · rw [if_neg h, if_pos (by omega)]; rfl
theorem far_at {c : Nat → Int} {x : Int} {m : Nat} (hm : m ≠ 0) (h0 : c (m - 1) ≠ 0) (hx : ∀ i, i < m → (c i).natAbs < x.natAbs) : sgn (vlZ c (mkR (Rat.num (x : Rat)) (Rat.den (x : Rat) : Int)).num ((mkR (Rat.num (x : Rat)) (Rat.den (x : Rat) : Int)).den : Int) m m) = sgn (c (m - 1)) * (sgn x) ^ (m - 1) := by
  rw [mkR_self, Rat.num_intCast, Rat.den_intCast]
  have h := far_sgn hx h0 (m - 1) (by omega)
  rw [show m - 1 + 1 = m by omega] at h
  exact h
theorem far_pos {c : Nat → Int} {N m : Nat} (hmN : m ≤ N) (hm : m ≠ 0) (h0 : c (m - 1) ≠ 0) : sgn (vlZ c (mkR (Rat.num ((1 + szs c N : Int) : Rat)) (Rat.den ((1 + szs c N : Int) : Rat) : Int)).num ((mkR (Rat.num ((1 + szs c N : Int) : Rat)) (Rat.den ((1 + szs c N : Int) : Rat) : Int)).den : Int) m m) = sgn (c (m - 1)) := by
  have hn := szs_nn c N
  rw [far_at hm h0 (fun i hi => by have := szs_le (c := c) (n := N) (i := i) (by omega); omega), sgn_pos (show 0 < 1 + szs c N by omega), Int.one_pow, Int.mul_one]
theorem far_neg {c : Nat → Int} {N m : Nat} (hmN : m ≤ N) (hm : m ≠ 0) (h0 : c (m - 1) ≠ 0) : sgn (vlZ c (mkR (Rat.num ((-(1 + szs c N) : Int) : Rat)) (Rat.den ((-(1 + szs c N) : Int) : Rat) : Int)).num ((mkR (Rat.num ((-(1 + szs c N) : Int) : Rat)) (Rat.den ((-(1 + szs c N) : Int) : Rat) : Int)).den : Int) m m) = if m % 2 = 0 then -sgn (c (m - 1)) else sgn (c (m - 1)) := by
  have hn := szs_nn c N
  rw [far_at hm h0 (fun i hi => by have := szs_le (c := c) (n := N) (i := i) (by omega); omega), sgn_neg (show -(1 + szs c N) < 0 by omega), neg1_pow]
  by_cases h : m % 2 = 0
  · rw [if_neg (by omega), if_pos h]; omega
  · rw [if_pos (by omega), if_neg h]; omega
theorem cmpQ_eq {a b : Rat} (h : a = b) : cmpQ a b = 0 := by subst h; unfold cmpQ cmpZ; simp
theorem den_pos (q : Rat) : (0 : Int) < (q.den : Int) := by have := q.den_pos; omega
theorem pow_pos_int {d : Int} (h : 0 < d) : ∀ s : Nat, 0 < d ^ s
  | 0 => by rw [Int.pow_zero]; decide
  | s + 1 => by rw [Int.pow_succ]; exact Int.mul_pos (pow_pos_int h s) h
theorem vl_pz (c : Nat → Int) (q : Rat) (n : Nat) : ((vlZ c q.num (q.den : Int) n n : Int) : Rat) * ((q.den : Int) : Rat) = ((q.den : Int) : Rat) ^ n * pz c q n := by rw [vl_hv, pz_vl]
/-- The sign of a product's value. -/
theorem vl_prod {a b : Nat → Int} {q : Rat} {n m p : Nat} (ha : ∀ i, n ≤ i → a i = 0) (hb : ∀ i, m ≤ i → b i = 0) (hp : ∀ i, p ≤ i → conv a b i = 0) :
    sgn (vlZ (conv a b) q.num (q.den : Int) p p) = sgn (vlZ a q.num (q.den : Int) n n) * sgn (vlZ b q.num (q.den : Int) m m) := by
  have h1 := vl_pz (conv a b) q p
  have h2 := vl_pz a q n
  have h3 := vl_pz b q m
  rw [pz_conv ha hb hp] at h1
  have hd := den_pos q
  generalize hD : (q.den : Int) = D at *
  have e : vlZ (conv a b) q.num D p p * (D * D ^ n * D ^ m) = vlZ a q.num D n n * vlZ b q.num D m m * (D * D * D ^ p) := by
    apply Rat.intCast_inj.1
    simp only [Rat.intCast_mul, cast_pow]
    generalize (vlZ (conv a b) q.num D p p : Rat) = C at *
    generalize (vlZ a q.num D n n : Rat) = A at *
    generalize (vlZ b q.num D m m : Rat) = B at *
    generalize pz a q n = x at *
    generalize pz b q m = y at *
    generalize (D : Rat) ^ n = u at *
    generalize (D : Rat) ^ m = v at *
    generalize (D : Rat) ^ p = t at *
    grind
  have e2 := congrArg sgn e
  rw [sgn_mul, sgn_mul (vlZ a q.num D n n * vlZ b q.num D m m), sgn_pos (Int.mul_pos (Int.mul_pos hd (pow_pos_int hd n)) (pow_pos_int hd m)), sgn_pos (Int.mul_pos (Int.mul_pos hd hd) (pow_pos_int hd p)), Int.mul_one, Int.mul_one, sgn_mul] at e2
  exact e2
theorem sgn_bd2 (z : Int) : -1 ≤ sgn z ∧ sgn z ≤ 1 := by unfold sgn; (repeat' split) <;> omega
theorem sgn_wr (a b : Int) : IntKind.i64.wrap (sgn a * sgn b) = sgn a * sgn b := by rw [← sgn_mul]; have := sgn_bd2 (a * b); exact wr64 (by omega) (by omega)
theorem divInt_div {x y : Int} (hy : y ≠ 0) : (y : Rat) * Rat.divInt x y = (x : Rat) := by
  have h := mkR_div (x := x) hy
  rw [mkR_ne hy] at h
  rw [Rat.mul_comm]; exact h
theorem lst2_z {x y : Int} : ∀ i, 2 ≤ i → lst [-x, y] i = 0 := fun i hi => lst_z (l := [-x, y]) i hi
theorem root_lin {x y : Int} (hy : y ≠ 0) {m : Nat} (hm : ∀ i, m ≤ i → lst [-x, y] i = 0) : pz (lst [-x, y]) (Rat.divInt x y) m = 0 := by
  rw [pz_eq hm (lst2_z (x := x) (y := y))]
  show ((0 : Rat) + ((-x : Int) : Rat) * (Rat.divInt x y) ^ 0) + (y : Rat) * (Rat.divInt x y) ^ 1 = 0
  have h := divInt_div (x := x) hy
  rw [Rat.pow_succ, Rat.pow_zero, Rat.intCast_neg]
  grind
theorem root_val {c : Nat → Int} {x y : Int} {n p : Nat} (hy : y ≠ 0) (hz : ∀ i, n ≤ i → c i = 0) (hp : ∀ i, p ≤ i → conv c (lst [-x, y]) i = 0) : vlQ (rc (conv c (lst [-x, y]))) (Rat.divInt x y) p p = 0 := by
  rw [pz_vl, pz_conv hz (lst2_z (x := x) (y := y)) hp, root_lin hy lst2_z, Rat.mul_zero]
theorem root_sgn {c : Nat → Int} {x y : Int} {n p : Nat} (hy : y ≠ 0) (hz : ∀ i, n ≤ i → c i = 0) (hp : ∀ i, p ≤ i → conv c (lst [-x, y]) i = 0) : sgn (vlZ (conv c (lst [-x, y])) (Rat.divInt x y).num ((Rat.divInt x y).den : Int) p p) = 0 := by
  rw [vl_prod hz (lst2_z (x := x) (y := y)) hp]
  have h := vl_pz (lst [-x, y]) (Rat.divInt x y) 2
  rw [root_lin hy lst2_z, Rat.mul_zero] at h
  have hd : (((Rat.divInt x y).den : Int) : Rat) ≠ 0 := fun e => den_ne _ (Rat.intCast_eq_zero_iff.1 e)
  have h2 : ((vlZ (lst [-x, y]) (Rat.divInt x y).num ((Rat.divInt x y).den : Int) 2 2 : Int) : Rat) = 0 := (Rat.mul_eq_zero.1 h).resolve_right hd
  rw [Rat.intCast_eq_zero_iff.1 h2]
  exact Int.mul_zero _
theorem roots_mv {c : Nat → Int} {x y : Int} {n p : Nat} {q : Rat} (hy : y ≠ 0) (hz : ∀ i, n ≤ i → c i = 0) (hp : ∀ i, p ≤ i → mvZ c x y n n i = 0) : vlQ (rc (mvZ c x y n n)) q p p = ((y ^ (((n - 1 : Nat) : Int)).toNat : Int) : Rat) * vlQ (rc c) (q + Rat.divInt x y) n n := by
  rw [pz_vl, pz_vl, pz_eq hp (mvZ_z n), pz_mv hy, mkR_ne hy, cast_pow, Int.toNat_natCast]
theorem mv_dg {c : Nat → Int} {x y : Int} {n p : Nat} (hy : y ≠ 0) (h : n = 0 ∨ c (n - 1) ≠ 0) (hp : ∀ i, p ≤ i → mvZ c x y n n i = 0) : dg (mvZ c x y n n) p = n := by
  refine dg_uniq dg_or (dg_z hp) ?_ (mvZ_z n)
  rcases h with h | h
  · exact Or.inl h
  · rcases Nat.eq_zero_or_pos n with e | e
    · exact Or.inl e
    · refine Or.inr ?_
      have ht := mv_top (a := c) (x := x) (y := y) (top := n) (n - 1)
      rw [show n - 1 + 1 = n by omega] at ht
      rw [ht]
      exact Int.mul_ne_zero h (pow_ne_int hy _)
end Go.Proofs.Ytnnpjkalkfoolaa

/-
  A SLICE OF INTEGERS THAT CAME IN, AS THE WALKS READ IT ('Rw').
-/
set_option linter.unusedVariables false
set_option linter.unusedSimpArgs false
namespace Go.Proofs.Ytnnpjkalkfoolaa
open Go.RowKit

/-- A row that came in (in the words of the rows' shells) is a row as the walks read it: kind k, each from 0 to B - 1. -/
theorem rw_in {k : IntKind} {B : Nat} {w : World} {a : Option Addr} {len cap : Nat} {zs : List Int}
    (h : (a = none ∧ len = 0 ∧ cap = 0 ∧ zs = []) ∨ ∃ x, a = some x ∧ len ≤ cap ∧ cap ≤ maxLen ∧ zs.length = cap ∧ (∀ i, i < zs.length → w.cell? (x.add i) = some (.int k (zs.getD i 0))) ∧ ∀ n ∈ zs, (Lit.int k n).wf = true)
    (hk : ∀ z : Int, (Lit.int k z).wf = true → 0 ≤ z ∧ z < (B : Int)) :
    len ≤ 9223372036854775807 ∧ ∃ xs, Rw k B w a len cap xs := by
  rcases h with ⟨rfl, rfl, rfl, rfl⟩ | ⟨x, rfl, hlc, hcm, hz, hcell, hwf⟩
  · exact ⟨by omega, [], Rw.nil k B w⟩
  · have hm : maxLen = 9223372036854775807 := by decide
    refine ⟨by omega, (zs.take len).map Int.toNat, by rw [List.length_map, List.length_take]; omega, hlc, (fun e => nomatch e), ?_, ?_⟩
    · intro n hn
      obtain ⟨z, hz, rfl⟩ := List.mem_map.1 hn
      have := hk z (hwf z (List.mem_of_mem_take hz))
      omega
    · by_cases h0 : len = 0
      · left; subst h0; rfl
      · right
        obtain ⟨b, off, sp⟩ := x
        have hc0 := hcell 0 (by omega)
        obtain rfl : sp = none := by
          cases sp with
          | none => rfl
          | some s =>
            exfalso
            simp only [Addr.add, if_true, World.cell?] at hc0
            split at hc0 <;> simp_all
        refine ⟨b, off, rfl, fun j hj => ?_⟩
        have hj2 : j < len := by simp [ints] at hj; omega
        have hcj := hcell j (by omega)
        have hzj : zs.getD j 0 = zs[j]'(by omega) := by rw [List.getD_eq_getElem?_getD, List.getElem?_eq_getElem (by omega)]; rfl
        have e1 : (⟨b, off, none⟩ : Addr).add j = ⟨b, off + j, none⟩ := by
          unfold Addr.add
          split
          · next h => subst h; rfl
          · rfl
        rw [e1, hzj] at hcj
        rw [hcj]
        have hw := hk _ (hwf _ (List.getElem_mem (l := zs) (n := j) (by omega)))
        simp only [ints, List.map_map, List.getElem_map, List.getElem_take, Function.comp]
        rw [Int.toNat_of_nonneg hw.1]

theorem wf_u32 (z : Int) (h : (Lit.int .u32 z).wf = true) : 0 ≤ z ∧ z < (B32 : Int) := by
  simp only [Lit.wf, Bool.and_eq_true, decide_eq_true_eq] at h
  have h1 : IntKind.u32.min = 0 := by decide
  have h2 : IntKind.u32.max = 4294967295 := by decide
  have h3 : (B32 : Int) = 4294967296 := by decide
  omega

theorem wf_int {z : Int} (h : (Lit.int .i64 z).wf = true) : -9223372036854775808 ≤ z ∧ z ≤ 9223372036854775807 := by
  simp only [Lit.wf, Bool.and_eq_true, decide_eq_true_eq] at h
  have h1 : IntKind.i64.min = -9223372036854775808 := by decide
  have h2 : IntKind.i64.max = 9223372036854775807 := by decide
  omega

end Go.Proofs.Ytnnpjkalkfoolaa

/-
  WHAT COMES IN: rows of limbs, rows of rows, as the walks read them.
-/
set_option linter.unusedVariables false
set_option linter.unusedSimpArgs false
namespace Go.Proofs.Ytnnpjkalkfoolaa
open Go.RowKit Go.ChangeShapes Go.WideShapes

section
variable {H : Type} {enc : TypeId × Value → H} {P : Program} {w : World}

/-- A row of limbs that came in. -/
theorem in_u32s {t e : TypeId} {fuel : Nat} {cs : List Value} {x : DataW H × List MemPlace} (ht : P.underlying t = some (.slice e)) (he : P.underlying e = some (.int .u32)) (hc : P.cellsOf e = 1)
    (h : DataW.trod enc P w 0 (fun _ => true) true fuel t cs = some x) :
    ∃ a len cap, cs = [.slice a len cap] ∧ len ≤ 9223372036854775807 ∧ ∃ xs, Rw .u32 B32 w a len cap xs := by
  rcases open_ints ht he hc h with ⟨rfl, _⟩ | ⟨a, l, c, zs, rfl, _, hl, hm, hz, _, hcell, hwz⟩
  · exact ⟨none, 0, 0, rfl, by omega, [], Rw.nil _ _ _⟩
  · exact ⟨some a, l, c, rfl, rw_in (.inr ⟨_, rfl, hl, hm, by simpa using hz, hcell, hwz⟩) wf_u32⟩

/-- A row of rows of limbs that came in: each element is a row of limbs. -/
def InRows (w : World) (ao : Option Addr) (n : Nat) : Prop :=
  ∀ j, j < n → ∃ b off a k d xs, ao = some ⟨b, off, none⟩ ∧ w.cell? ⟨b, off + j, none⟩ = some (.slice a k d) ∧ k ≤ 9223372036854775807 ∧ Rw .u32 B32 w a k d xs

theorem add_plain {b off j : Nat} : (⟨b, off, none⟩ : Addr).add j = ⟨b, off + j, none⟩ := by
  unfold Addr.add
  split
  · next h => subst h; rfl
  · rfl

/-- The address of a cell that can be read has no spot. -/
theorem plain_of_cell {a : Addr} {v : Value} (h : w.cell? (a.add 0) = some v) : ∃ b off, a = ⟨b, off, none⟩ := by
  obtain ⟨b, off, sp⟩ := a
  cases sp with
  | none => exact ⟨b, off, rfl⟩
  | some s =>
    exfalso
    simp only [Addr.add, if_true, World.cell?] at h
    split at h <;> simp_all

theorem in_rows {t e e' : TypeId} {fuel : Nat} {cs : List Value} {x : DataW H × List MemPlace} (ht : P.underlying t = some (.slice e)) (he : P.underlying e = some (.slice e')) (he' : P.underlying e' = some (.int .u32)) (hc : P.cellsOf e = 1) (hc' : P.cellsOf e' = 1)
    (h : DataW.trod enc P w 0 (fun _ => true) true fuel t cs = some x) :
    ∃ a len cap, cs = [.slice a len cap] ∧ len ≤ 9223372036854775807 ∧ len ≤ cap ∧ InRows w a len := by
  rcases Go.Deep.open_slice1 ht hc h with ⟨rfl, _⟩ | ⟨a, len, cap, m, n, V, D, Pl, rfl, _, hl, hm, hmm, _, hx⟩
  · exact ⟨none, 0, 0, rfl, by omega, Nat.le_refl _, fun j hj => absurd hj (by omega)⟩
  · have hmax : maxLen = 9223372036854775807 := by decide
    refine ⟨some a, len, cap, rfl, by omega, hl, fun j hj => ?_⟩
    have hm2 : m = cap := by simpa using hmm
    obtain ⟨b, off, rfl⟩ := plain_of_cell (hx 0 (by omega)).1
    obtain ⟨h1, h2⟩ := hx j (by omega)
    obtain ⟨a', k, d, he1, hk, xs, hr⟩ := in_u32s he he' hc' h2
    rw [add_plain] at h1
    exact ⟨b, off, a', k, d, xs, rfl, by rw [h1]; exact congrArg some (List.cons.inj he1).1, hk, hr⟩

end
end Go.Proofs.Ytnnpjkalkfoolaa

/-
  WHAT COMES IN, in the abstract machine's words; a law's answer as the rows ask for it. No condition; nothing of the program.
-/
set_option linter.unusedVariables false
set_option linter.unusedSimpArgs false
namespace Go.Proofs.Ytnnpjkalkfoolaa
open Go.RowKit Go.ChangeShapes Go.WideShapes

def nb : BS := fun _ => False
abbrev MX : Nat := 9223372036854775807
theorem am_law {P : Program} {f : FuncId} {args : List DV} (h : ACall P f args (.d (.one (.v (.bool true))))) {w : World} {vs : List Value} (hvs : DsR nb w args vs) : Calls P f vs.toArray w fun e w' => e = .returned (.bool true) ∧ Below w.heap.size w w' :=
  (h.go nb w vs (fun _ h => h.elim) hvs).mono fun e w' ⟨v, he, hb, hv⟩ => ⟨by have h1 : v = .bool true := (show LfR nb w' (.v (.bool true)) v from hv).1; rw [he, h1], hb⟩

section
variable {H : Type} {enc : TypeId × Value → H} {P : Program} {w : World}
theorem am_lim {t e : TypeId} {fuel : Nat} {cs : List Value} {x : DataW H × List MemPlace} (ht : P.underlying t = some (.slice e)) (he : P.underlying e = some (.int .u32)) (hc : P.cellsOf e = 1)
    (h : DataW.trod enc P w 0 (fun _ => true) true fuel t cs = some x) : ∃ v xs, cs = [v] ∧ LfR nb w (lr MX xs) v := by
  obtain ⟨a, len, cap, e1, hl, xs, hr⟩ := in_u32s ht he hc h
  exact ⟨_, xs, e1, lr_R hr hl (fun _ _ _ h => h.elim)⟩
theorem am_int {r : Reach} {b0 : Nat} {t e : TypeId} {f0 f1 : Field} {v : Value} {d : DataW H} {p : List MemPlace} (hs : P.underlying t = some (.struct #[f0, f1])) (hone : Deep.oneCellFields P #[f0, f1] = true) (hC : P.cellsOf t = 2)
    (h0 : P.underlying f0.type = some .bool) (h1 : P.underlying f1.type = some (.slice e)) (he : P.underlying e = some (.int .u32)) (hc : P.cellsOf e = 1)
    (hv : Value.okWide P w r b0 t v) (h : DataW.Trod enc P w 0 (fun _ => true) true t v d p) :
    ∃ s xs, DR nb w (.agg [.v (.bool s), lr MX xs]) v := by
  obtain ⟨v0, v1, y0, y1, m, rfl, _, _, k0, k1⟩ := Joins.open_agg2 hs hone hC hv h
  obtain ⟨v1', xs, e1, hr⟩ := am_lim h1 he hc k1
  obtain ⟨s, e0⟩ : ∃ s, v0 = .bool s := by
    obtain ⟨b', hb, _⟩ := DataW.trod_bool h0 k0
    exact ⟨b', (List.cons.inj hb).1⟩
  subst e0
  obtain rfl := (List.cons.inj e1).1
  exact ⟨s, xs, _, rfl, ⟨rfl, rfl⟩, hr, trivial⟩
theorem am_pol {t e u : TypeId} {f0 f1 : Field} {fuel : Nat} {cs : List Value} {x : DataW H × List MemPlace} (ht : P.underlying t = some (.slice e)) (hs : P.underlying e = some (.struct #[f0, f1])) (hC : P.cellsOf e = 2)
    (ho : f0.offset = 0 ∧ f1.offset = 1 ∧ P.cellsOf f0.type = 1 ∧ P.cellsOf f1.type = 1)
    (h0 : P.underlying f0.type = some .bool) (h1 : P.underlying f1.type = some (.slice u)) (hu : P.underlying u = some (.int .u32)) (hc : P.cellsOf u = 1)
    (h : DataW.trod enc P w 0 (fun _ => true) true fuel t cs = some x) : ∃ v n f, cs = [v] ∧ LfR nb w (arow MX n f) v := by
  obtain ⟨o0, o1, k0, k1⟩ := ho
  rcases Go.Deep.open_slice ht h with ⟨hcs, _⟩ | ⟨a, len, cap, m, n, D, Pl, hcs, _, hl, hm, hmm, _, hx⟩
  · exact ⟨_, 0, fun _ => (false, []), hcs, none, 0, rfl, Nat.le_refl _, fun _ => rfl, fun i hi => absurd hi (Nat.not_lt_zero _)⟩
  · have hmax : maxLen = 9223372036854775807 := by decide
    have hm2 : m = cap := by simpa using hmm
    have key : ∀ j, j < len → ∃ F : Bool × List Nat, ∃ b off v1, a = ⟨b, off, none⟩ ∧ w.cell? ⟨b, off + j * 2, none⟩ = some (.bool F.1) ∧ w.cell? ⟨b, off + j * 2 + 1, none⟩ = some v1 ∧ LfR nb w (lr MX F.2) v1 := by
      intro j hj
      have hfirst : ∃ v0, w.cell? (a.add 0) = some v0 := by
        obtain ⟨cs, h2, _⟩ := hx 0 (by omega)
        rw [hC] at h2
        obtain ⟨_, hlen, hcell⟩ := World.cells?_some h2
        have h3 := hcell 0 (by omega)
        rw [Nat.zero_mul, show (a.add 0).add 0 = a.add 0 by simp [Addr.add]] at h3
        exact ⟨_, h3.trans (List.getElem?_eq_getElem (by omega))⟩
      obtain ⟨v0, hv0⟩ := hfirst
      obtain ⟨b, off, rfl⟩ := plain_of_cell hv0
      obtain ⟨cs, h2, h3⟩ := hx j (by omega)
      rw [hC] at h2
      obtain ⟨_, hlen, hcell⟩ := World.cells?_some h2
      obtain ⟨y0, y1, q, _, _, t0, t1⟩ := trod_struct2 hs h3
      match cs, hlen with
      | [c0, c1], _ =>
        rw [o0, k0] at t0
        rw [o1, k1] at t1
        obtain ⟨s, hb, _⟩ := DataW.trod_bool h0 t0
        obtain ⟨v1, xs, e1, hr⟩ := am_lim h1 hu hc t1
        obtain rfl : c0 = .bool s := (List.cons.inj hb).1
        obtain rfl : c1 = v1 := (List.cons.inj e1).1
        have g0 := hcell 0 (by simp)
        have g1 := hcell 1 (by simp)
        rw [add_plain, add_plain] at g0 g1
        exact ⟨(s, xs), b, off, c1, rfl, g0, g1, hr⟩
    refine ⟨_, len, fun j => if h : j < len then (key j h).choose else (false, []), hcs, some a, cap, rfl, hl, (fun e => nomatch e), fun j hj => ?_⟩
    obtain ⟨b, off, v1, rfl, h2, h3, h4⟩ := (key j hj).choose_spec
    refine ⟨b, off, rfl, fun h => h.elim, World.block_lt_of_cell? w _ h2, fun q hq => ?_⟩
    match q, hq with
    | 0, _ =>
      refine ⟨_, h2, ?_⟩
      show LfR nb w (.v (.bool (if h : j < len then (key j h).choose else (false, [])).1)) _
      rw [dif_pos hj]; exact ⟨rfl, rfl⟩
    | 1, _ =>
      refine ⟨_, h3, ?_⟩
      show LfR nb w (lr MX (if h : j < len then (key j h).choose else (false, [])).2) _
      rw [dif_pos hj]; exact h4
theorem am_pols {t s e u : TypeId} {f0 f1 : Field} {fuel : Nat} {cs : List Value} {x : DataW H × List MemPlace} (hts : P.underlying t = some (.slice s)) (hcs1 : P.cellsOf s = 1) (ht : P.underlying s = some (.slice e)) (hs : P.underlying e = some (.struct #[f0, f1])) (hC : P.cellsOf e = 2)
    (ho : f0.offset = 0 ∧ f1.offset = 1 ∧ P.cellsOf f0.type = 1 ∧ P.cellsOf f1.type = 1)
    (h0 : P.underlying f0.type = some .bool) (h1 : P.underlying f1.type = some (.slice u)) (hu : P.underlying u = some (.int .u32)) (hc : P.cellsOf u = 1)
    (h : DataW.trod enc P w 0 (fun _ => true) true fuel t cs = some x) : ∃ v n ns fs, cs = [v] ∧ LfR nb w (prows MX n ns fs) v := by
  rcases Go.Deep.open_slice1 hts hcs1 h with ⟨rfl, _⟩ | ⟨a, len, cap, m, n, V, D, Pl, rfl, _, hl, hm, hmm, _, hx⟩
  · exact ⟨_, 0, fun _ => 0, fun _ _ => (false, []), rfl, none, 0, rfl, Nat.le_refl _, fun _ => rfl, fun i hi => absurd hi (Nat.not_lt_zero _)⟩
  · have hm2 : m = cap := by simpa using hmm
    have key : ∀ j, j < len → ∃ F : Nat × (Nat → Bool × List Nat), ∃ b off v1, a = ⟨b, off, none⟩ ∧ w.cell? ⟨b, off + j, none⟩ = some v1 ∧ LfR nb w (arow MX F.1 F.2) v1 := by
      intro j hj
      obtain ⟨b, off, rfl⟩ := plain_of_cell (hx 0 (by omega)).1
      obtain ⟨h1', h2⟩ := hx j (by omega)
      obtain ⟨v, n', f, e1, hr⟩ := am_pol ht hs hC ho h0 h1 hu hc h2
      rw [add_plain] at h1'
      obtain e2 := (List.cons.inj e1).1
      exact ⟨(n', f), b, off, v, rfl, by rw [h1', e2], hr⟩
    refine ⟨_, len, fun j => if h : j < len then (key j h).choose.1 else 0, fun j => if h : j < len then (key j h).choose.2 else fun _ => (false, []), rfl, some a, cap, rfl, hl, (fun e => nomatch e), fun j hj => ?_⟩
    obtain ⟨b, off, v1, rfl, h2, h4⟩ := (key j hj).choose_spec
    refine ⟨b, off, rfl, fun h => h.elim, World.block_lt_of_cell? w _ h2, fun q hq => ?_⟩
    obtain rfl : q = 0 := by omega
    refine ⟨_, by rw [Nat.mul_one, Nat.add_zero]; exact h2, ?_⟩
    show LfR nb w (arow MX (if h : j < len then (key j h).choose.1 else 0) (if h : j < len then (key j h).choose.2 else fun _ => (false, []))) _
    rw [dif_pos hj, dif_pos hj]; exact h4
theorem am_i64s {t e : TypeId} {fuel : Nat} {cs : List Value} {x : DataW H × List MemPlace} (ht : P.underlying t = some (.slice e)) (he : P.underlying e = some (.int .i64)) (hc : P.cellsOf e = 1)
    (h : DataW.trod enc P w 0 (fun _ => true) true fuel t cs = some x) : ∃ v n c, cs = [v] ∧ LfR nb w (irow n c) v ∧ ∀ i, i < n → -9223372036854775808 ≤ c i ∧ c i ≤ 9223372036854775807 := by
  rcases open_ints ht he hc h with ⟨rfl, _⟩ | ⟨a, l, c, zs, rfl, _, hl, hm, hz, _, hcell, hwz⟩
  · exact ⟨_, 0, fun _ => 0, rfl, ⟨none, 0, rfl, Nat.le_refl _, fun _ => rfl, fun i hi => absurd hi (Nat.not_lt_zero _)⟩, fun i hi => absurd hi (Nat.not_lt_zero _)⟩
  · have hz' : zs.length = c := by simpa using hz
    refine ⟨_, l, fun i => zs.getD i 0, rfl, ⟨some a, c, rfl, hl, (fun e => nomatch e), fun i hi => ?_⟩, fun i hi => ?_⟩
    · have h0 := hcell 0 (by omega)
      obtain ⟨b, off, rfl⟩ := plain_of_cell h0
      have h1 := hcell i (by omega)
      rw [add_plain] at h1
      refine ⟨b, off, rfl, fun h => h.elim, World.block_lt_of_cell? w _ h1, fun q hq => ?_⟩
      obtain rfl : q = 0 := by omega
      exact ⟨_, by rw [Nat.mul_one, Nat.add_zero]; exact h1, rfl, rfl⟩
    · have hi' : i < zs.length := by omega
      show _ ≤ zs.getD i 0 ∧ zs.getD i 0 ≤ _
      rw [List.getD_eq_getElem?_getD, List.getElem?_eq_getElem hi']
      exact wf_int (hwz _ (List.getElem_mem hi'))
theorem slice_cells {a : Option Addr} {n c : Nat} : (Value.slice a n c).cells.toList = [.slice a n c] := by simp [Value.cells]
theorem am_polT {r : Reach} {b0 : Nat} {d : DataW H} {p : List MemPlace} {v : Value} {t e u : TypeId} {f0 f1 : Field} (ht : P.underlying t = some (.slice e)) (hs : P.underlying e = some (.struct #[f0, f1])) (hC : P.cellsOf e = 2)
    (ho : f0.offset = 0 ∧ f1.offset = 1 ∧ P.cellsOf f0.type = 1 ∧ P.cellsOf f1.type = 1)
    (h0 : P.underlying f0.type = some .bool) (h1 : P.underlying f1.type = some (.slice u)) (hu : P.underlying u = some (.int .u32)) (hc : P.cellsOf u = 1)
    (hv : Value.okWide P w r b0 t v) (h : DataW.Trod enc P w 0 (fun _ => true) true t v d p) : ∃ n f, LfR nb w (arow MX n f) v := by
  obtain ⟨a, len, cap, rfl⟩ := okWide_slice ht hv
  obtain ⟨fuel, hf⟩ := h
  rw [slice_cells] at hf
  obtain ⟨v', n, f, e1, h2⟩ := am_pol ht hs hC ho h0 h1 hu hc hf
  obtain rfl := (List.cons.inj e1).1
  exact ⟨n, f, h2⟩
theorem am_polsT {r : Reach} {b0 : Nat} {d : DataW H} {p : List MemPlace} {v : Value} {t s e u : TypeId} {f0 f1 : Field} (hts : P.underlying t = some (.slice s)) (hcs1 : P.cellsOf s = 1) (ht : P.underlying s = some (.slice e)) (hs : P.underlying e = some (.struct #[f0, f1])) (hC : P.cellsOf e = 2)
    (ho : f0.offset = 0 ∧ f1.offset = 1 ∧ P.cellsOf f0.type = 1 ∧ P.cellsOf f1.type = 1)
    (h0 : P.underlying f0.type = some .bool) (h1 : P.underlying f1.type = some (.slice u)) (hu : P.underlying u = some (.int .u32)) (hc : P.cellsOf u = 1)
    (hv : Value.okWide P w r b0 t v) (h : DataW.Trod enc P w 0 (fun _ => true) true t v d p) : ∃ n ns fs, LfR nb w (prows MX n ns fs) v := by
  obtain ⟨a, len, cap, rfl⟩ := okWide_slice hts hv
  obtain ⟨fuel, hf⟩ := h
  rw [slice_cells] at hf
  obtain ⟨v', n, ns, fs, e1, h2⟩ := am_pols hts hcs1 ht hs hC ho h0 h1 hu hc hf
  obtain rfl := (List.cons.inj e1).1
  exact ⟨n, ns, fs, h2⟩
theorem am_i64sT {r : Reach} {b0 : Nat} {d : DataW H} {p : List MemPlace} {v : Value} {t e : TypeId} (ht : P.underlying t = some (.slice e)) (he : P.underlying e = some (.int .i64)) (hc : P.cellsOf e = 1)
    (hv : Value.okWide P w r b0 t v) (h : DataW.Trod enc P w 0 (fun _ => true) true t v d p) : ∃ n c, LfR nb w (irow n c) v ∧ ∀ i, i < n → -9223372036854775808 ≤ c i ∧ c i ≤ 9223372036854775807 := by
  obtain ⟨a, len, cap, rfl⟩ := okWide_slice ht hv
  obtain ⟨fuel, hf⟩ := h
  rw [slice_cells] at hf
  obtain ⟨v', n, c, e1, h2⟩ := am_i64s ht he hc hf
  obtain rfl := (List.cons.inj e1).1
  exact ⟨n, c, h2⟩
end
end Go.Proofs.Ytnnpjkalkfoolaa

/-
  WHAT COMES IN (2): rationals, rows of rationals. No condition; nothing of the program.
-/
set_option linter.unusedVariables false
set_option linter.unusedSimpArgs false
namespace Go.Proofs.Ytnnpjkalkfoolaa
open Go.RowKit Go.ChangeShapes Go.WideShapes

section
variable {H : Type} {enc : TypeId × Value → H} {P : Program} {w : World}
theorem am_intc {t e : TypeId} {f0 f1 : Field} {fuel : Nat} {cs : List Value} {x : DataW H × List MemPlace} (hs : P.underlying t = some (.struct #[f0, f1])) (ho : f0.offset = 0 ∧ f1.offset = 1 ∧ P.cellsOf f0.type = 1 ∧ P.cellsOf f1.type = 1)
    (h0 : P.underlying f0.type = some .bool) (h1 : P.underlying f1.type = some (.slice e)) (he : P.underlying e = some (.int .u32)) (hc : P.cellsOf e = 1) (hl : cs.length = 2)
    (h : DataW.trod enc P w 0 (fun _ => true) true fuel t cs = some x) : ∃ s xs v1, cs = [.bool s, v1] ∧ LfR nb w (lr MX xs) v1 := by
  obtain ⟨y0, y1, q, _, _, t0, t1⟩ := trod_struct2 hs h
  obtain ⟨o0, o1, k0, k1⟩ := ho
  match cs, hl with
  | [c0, c1], _ =>
    rw [o0, k0] at t0
    rw [o1, k1] at t1
    obtain ⟨s, hb, _⟩ := DataW.trod_bool h0 t0
    obtain ⟨v1, xs, e1, hr⟩ := am_lim h1 he hc t1
    obtain rfl : c0 = .bool s := (List.cons.inj hb).1
    obtain rfl : c1 = v1 := (List.cons.inj e1).1
    exact ⟨s, xs, _, rfl, hr⟩
/-- A rational in any form. -/
def tan (K : Nat) (s : Bool) (xs : List Nat) (t : Bool) (ys : List Nat) : List Lf := [.v (.bool s), lr K xs] ++ [.v (.bool t), lr K ys]
theorem am_ratc {t u e : TypeId} {g0 g1 f0 f1 : Field} {fuel : Nat} {cs : List Value} {x : DataW H × List MemPlace} (hr : P.underlying t = some (.struct #[g0, g1])) (hg : g0.offset = 0 ∧ g1.offset = 2 ∧ P.cellsOf g0.type = 2 ∧ P.cellsOf g1.type = 2)
    (u0 : g0.type = u) (u1 : g1.type = u) (hs : P.underlying u = some (.struct #[f0, f1])) (ho : f0.offset = 0 ∧ f1.offset = 1 ∧ P.cellsOf f0.type = 1 ∧ P.cellsOf f1.type = 1)
    (h0 : P.underlying f0.type = some .bool) (h1 : P.underlying f1.type = some (.slice e)) (he : P.underlying e = some (.int .u32)) (hc : P.cellsOf e = 1) (hl : cs.length = 4)
    (h : DataW.trod enc P w 0 (fun _ => true) true fuel t cs = some x) : ∃ s xs s' ys, LsR nb w (tan MX s xs s' ys) cs := by
  obtain ⟨y0, y1, q, _, _, t0, t1⟩ := trod_struct2 hr h
  obtain ⟨o0, o1, k0, k1⟩ := hg
  match cs, hl with
  | [c0, c1, c2, c3], _ =>
    rw [o0, k0, u0] at t0
    rw [o1, k1, u1] at t1
    obtain ⟨s, xs, v1, e1, r1⟩ := am_intc hs ho h0 h1 he hc rfl t0
    obtain ⟨s', ys, v2, e2, r2⟩ := am_intc hs ho h0 h1 he hc rfl t1
    simp at e1 e2
    obtain ⟨rfl, rfl⟩ := e1
    obtain ⟨rfl, rfl⟩ := e2
    exact ⟨s, xs, s', ys, ⟨rfl, rfl⟩, r1, ⟨rfl, rfl⟩, r2, trivial⟩
theorem am_rat {r : Reach} {b0 : Nat} {t u e : TypeId} {g0 g1 f0 f1 : Field} {v : Value} {d : DataW H} {p : List MemPlace} (hr : P.underlying t = some (.struct #[g0, g1])) (hC : P.cellsOf t = 4) (hg : g0.offset = 0 ∧ g1.offset = 2 ∧ P.cellsOf g0.type = 2 ∧ P.cellsOf g1.type = 2)
    (u0 : g0.type = u) (u1 : g1.type = u) (hs : P.underlying u = some (.struct #[f0, f1])) (ho : f0.offset = 0 ∧ f1.offset = 1 ∧ P.cellsOf f0.type = 1 ∧ P.cellsOf f1.type = 1)
    (h0 : P.underlying f0.type = some .bool) (h1 : P.underlying f1.type = some (.slice e)) (he : P.underlying e = some (.int .u32)) (hc : P.cellsOf e = 1)
    (hv : Value.okWide P w r b0 t v) (h : DataW.Trod enc P w 0 (fun _ => true) true t v d p) : ∃ s xs s' ys, DR nb w (.agg (tan MX s xs s' ys)) v := by
  obtain ⟨cs, rfl, hsz⟩ := okWide_struct hr hv
  obtain ⟨fuel, hf⟩ := h
  have hcs : (Value.agg cs).cells.toList = cs.toList := by simp [Value.cells]
  rw [hcs] at hf
  obtain ⟨s, xs, s', ys, hx⟩ := am_ratc hr hg u0 u1 hs ho h0 h1 he hc (by simpa using hsz.trans hC) hf
  exact ⟨s, xs, s', ys, cs.toList, by simp, hx⟩
/-- A row of rationals in any form. -/
def trow (K n : Nat) (f : Nat → (Bool × List Nat) × (Bool × List Nat)) : Lf := .row 4 n fun i j => ((tan K (f i).1.1 (f i).1.2 (f i).2.1 (f i).2.2)[j]?).getD (.v undef)
theorem am_rats {tt t u e : TypeId} {g0 g1 f0 f1 : Field} {fuel : Nat} {cs : List Value} {x : DataW H × List MemPlace} (ht : P.underlying tt = some (.slice t)) (hr : P.underlying t = some (.struct #[g0, g1])) (hC : P.cellsOf t = 4) (hg : g0.offset = 0 ∧ g1.offset = 2 ∧ P.cellsOf g0.type = 2 ∧ P.cellsOf g1.type = 2)
    (u0 : g0.type = u) (u1 : g1.type = u) (hs : P.underlying u = some (.struct #[f0, f1])) (ho : f0.offset = 0 ∧ f1.offset = 1 ∧ P.cellsOf f0.type = 1 ∧ P.cellsOf f1.type = 1)
    (h0 : P.underlying f0.type = some .bool) (h1 : P.underlying f1.type = some (.slice e)) (he : P.underlying e = some (.int .u32)) (hc : P.cellsOf e = 1)
    (h : DataW.trod enc P w 0 (fun _ => true) true fuel tt cs = some x) : ∃ v n f, cs = [v] ∧ LfR nb w (trow MX n f) v := by
  rcases Go.Deep.open_slice ht h with ⟨hcs, _⟩ | ⟨a, len, cap, m, n, D, Pl, hcs, _, hl, hm, hmm, _, hx⟩
  · exact ⟨_, 0, fun _ => ((false, []), (false, [])), hcs, none, 0, rfl, Nat.le_refl _, fun _ => rfl, fun i hi => absurd hi (Nat.not_lt_zero _)⟩
  · have hm2 : m = cap := by simpa using hmm
    have key : ∀ j, j < len → ∃ F : (Bool × List Nat) × (Bool × List Nat), ∃ b off, a = ⟨b, off, none⟩ ∧ b < w.heap.size ∧ ∀ q, q < 4 → ∃ c, w.cell? ⟨b, off + j * 4 + q, none⟩ = some c ∧ LfR nb w (((tan MX F.1.1 F.1.2 F.2.1 F.2.2)[q]?).getD (.v undef)) c := by
      intro j hj
      have hfirst : ∃ v0, w.cell? (a.add 0) = some v0 := by
        obtain ⟨cs, h2, _⟩ := hx 0 (by omega)
        rw [hC] at h2
        obtain ⟨_, hlen, hcell⟩ := World.cells?_some h2
        have h3 := hcell 0 (by omega)
        rw [Nat.zero_mul, show (a.add 0).add 0 = a.add 0 by simp [Addr.add]] at h3
        exact ⟨_, h3.trans (List.getElem?_eq_getElem (by omega))⟩
      obtain ⟨v0, hv0⟩ := hfirst
      obtain ⟨b, off, rfl⟩ := plain_of_cell hv0
      obtain ⟨cs, h2, h3⟩ := hx j (by omega)
      rw [hC] at h2
      obtain ⟨_, hlen, hcell⟩ := World.cells?_some h2
      obtain ⟨s, xs, s', ys, hls⟩ := am_ratc hr hg u0 u1 hs ho h0 h1 he hc hlen h3
      have hlt : b < w.heap.size := by
        have h4 := hcell 0 (by omega)
        rw [add_plain, add_plain] at h4
        exact World.block_lt_of_cell? w _ (h4.trans (List.getElem?_eq_getElem (by omega)))
      refine ⟨((s, xs), (s', ys)), b, off, rfl, hlt, fun q hq => ?_⟩
      have h4 := hcell q (by omega)
      rw [add_plain, add_plain] at h4
      obtain ⟨c, hc1, hc2⟩ := hls.get (j := q) (l := ((tan MX s xs s' ys)[q]?).getD (.v undef)) (by
        have hlen4 : (tan MX s xs s' ys).length = 4 := rfl
        rw [List.getElem?_eq_getElem (by omega)]; rfl)
      exact ⟨c, h4.trans hc1, hc2⟩
    refine ⟨_, len, fun j => if h : j < len then (key j h).choose else ((false, []), (false, [])), hcs, some a, cap, rfl, hl, (fun e => nomatch e), fun j hj => ?_⟩
    obtain ⟨b, off, rfl, h2, h3⟩ := (key j hj).choose_spec
    refine ⟨b, off, rfl, fun h => h.elim, h2, fun q hq => ?_⟩
    obtain ⟨c, h4, h5⟩ := h3 q hq
    refine ⟨c, h4, ?_⟩
    simp only [dif_pos hj]
    exact h5
theorem am_ratsT {r : Reach} {b0 : Nat} {d : DataW H} {p : List MemPlace} {v : Value} {tt t u e : TypeId} {g0 g1 f0 f1 : Field} (ht : P.underlying tt = some (.slice t)) (hr : P.underlying t = some (.struct #[g0, g1])) (hC : P.cellsOf t = 4) (hg : g0.offset = 0 ∧ g1.offset = 2 ∧ P.cellsOf g0.type = 2 ∧ P.cellsOf g1.type = 2)
    (u0 : g0.type = u) (u1 : g1.type = u) (hs : P.underlying u = some (.struct #[f0, f1])) (ho : f0.offset = 0 ∧ f1.offset = 1 ∧ P.cellsOf f0.type = 1 ∧ P.cellsOf f1.type = 1)
    (h0 : P.underlying f0.type = some .bool) (h1 : P.underlying f1.type = some (.slice e)) (he : P.underlying e = some (.int .u32)) (hc : P.cellsOf e = 1)
    (hv : Value.okWide P w r b0 tt v) (h : DataW.Trod enc P w 0 (fun _ => true) true tt v d p) : ∃ n f, LfR nb w (trow MX n f) v := by
  obtain ⟨a, len, cap, rfl⟩ := okWide_slice ht hv
  obtain ⟨fuel, hf⟩ := h
  rw [slice_cells] at hf
  obtain ⟨v', n, f, e1, h2⟩ := am_rats ht hr hC hg u0 u1 hs ho h0 h1 he hc hf
  obtain rfl := (List.cons.inj e1).1
  exact ⟨n, f, h2⟩
end
end Go.Proofs.Ytnnpjkalkfoolaa

/-
  THE LAWS of chapter 5, by the machine (0): Cut, wakes.
-/
set_option linter.unusedVariables false
set_option linter.unusedSimpArgs false
namespace Go.Proofs.Ytnnpjkalkfoolaa
open Go.RowKit

set_option maxRecDepth 100000 in
set_option maxHeartbeats 4000000 in
theorem aCut {K n m k M : Nat} {f : Nat → Bool × List Nat} (hM : max (3 * k) 64 ≤ M) (hm : m ≤ 1000) (hk : k ≤ 1000) (hK : K ≤ 9223372036854775807 := by decide) : ACall Try.prog 11 [.one (arow K n f), .one (.v (.int .i64 (m : Int))), .one (.v (.int .i64 (k : Int)))] (.tup [.one (arow k (min n m) (cutf k f)), .one (qrow M (dg (cfz (min n m) (cutf k f)) (min n m)) (rc (cfz (min n m) (cutf k f))))]) := by
  refine acallN hTT 15 [.tmp 6, .tmp 7] Try.func11 rfl rfl rfl rfl rfl ?_
  refine cSeq ?_
  refine cReg ?_
  refine mV hTT _ rfl ?_
  refine mV hTT _ rfl ?_
  refine mNil ?_
  refine tN ?_
  refine cSeq ?_
  refine cReg ?_
  refine mV hTT _ rfl ?_
  refine mV hTT _ rfl ?_
  refine mV hTT _ rfl ?_
  refine mC0 (aKPoly (K := K) (n := n) (m := m) (k := k) (f := f) (by omega) (by omega) (by omega)) rfl rfl rfl ?_
  refine mV hTT _ rfl ?_
  refine mNil ?_
  refine tN ?_
  refine cSeq ?_
  refine cReg ?_
  refine mV hTT _ rfl ?_
  refine mV hTT _ rfl ?_
  refine mC0 (aQFrom (⟨⟨(cutf k f), fun _ _ _ h => h, (fun i hi => (show cfz (min n m) (cutf k f) i = fzv (cutf k f) i from if_pos hi).symm)⟩, (fun i hi => if_neg (by omega))⟩ : IsP (arow k (min n m) (cutf k f)) k (min n m) (cfz (min n m) (cutf k f))) (M := (max (3 * k) 64)) (by omega) (by omega) (by omega)) rfl rfl rfl ?_
  refine mV hTT _ rfl ?_
  refine mV hTT _ rfl ?_
  refine mNil ?_
  refine tN ?_
  refine cRet ?_
  exact rQ rfl (le_tup (dl DV.same (dl (dle (le_qrow (by omega) (dg_cast _) (fun _ _ => rfl))) dl0)))

theorem wakes_n : dg (mvZ (lst [0, 0, 1]) 1 2 (dg (lst [0, 0, 1]) 3) (dg (lst [0, 0, 1]) 3)) (dg (lst [0, 0, 1]) 3 + 1) = 3 := by decide
theorem wakes_c : ∀ i, i < 3 → lst [1, 4, 4] i = mvZ (lst [0, 0, 1]) 1 2 (dg (lst [0, 0, 1]) 3) (dg (lst [0, 0, 1]) 3) i := by decide
theorem wakes_q : dg (rc (lst [1, 4, 4])) 3 = 3 := (dg_cast (c := lst [1, 4, 4]) 3).trans (by decide)
set_option maxRecDepth 100000 in
set_option maxHeartbeats 4000000 in
theorem aWakes : ACall Try.prog 16 [] (.d (.one (.v (.bool true)))) := by
  refine acallN hTT 19 [.tmp 0] Try.func16 rfl rfl rfl rfl rfl ?_
  refine cSeq ?_
  refine cReg ?_
  refine mV hTT _ rfl ?_
  refine mNil ?_
  refine tN ?_
  refine cSeq ?_
  refine cReg ?_
  refine mB hTT (.d (.one (.row 1 3 (fun i' j' => (([.v (.int .i64 0), .v (.int .i64 0), .v (.int .i64 1)])[i' * 1 + j']?).getD (.v undef))))) rfl ?_
  refine mC0 (aPOf (isi_lit (l := [0, 0, 1]) (n := 3) rfl (fun i hi => match i, hi with | 0, _ => rfl | 1, _ => rfl | 2, _ => rfl)) (by decide) (by omega)) rfl rfl rfl ?_
  refine mC0 (aOf (n := 1) (by decide) (by decide)) rfl rfl rfl ?_
  refine mC0 (aOf (n := 2) (by decide) (by decide)) rfl rfl rfl ?_
  refine mC0 (aPMove (isp (K := 2) (c := (lst [0, 0, 1])) (dg_z lst_z)) (isz 2 1) (isz 2 2) (D := 3) (T := 6010) (M := 24040) (by decide) (dg_le _ _)) rfl rfl rfl ?_
  refine mV hTT _ rfl ?_
  refine mV hTT _ rfl ?_
  refine mV hTT _ rfl ?_
  refine mV hTT _ rfl ?_
  refine mV hTT _ rfl ?_
  refine mNil ?_
  refine tN ?_
  refine cSeq ?_
  refine cReg ?_
  refine mV hTT _ rfl ?_
  refine mV hTT (.d (.one (.v (.bool true)))) rfl ?_
  refine mV hTT _ rfl ?_
  refine mB hTT (.d (.one (.row 1 3 (fun i' j' => (([.v (.int .i64 1), .v (.int .i64 4), .v (.int .i64 4)])[i' * 1 + j']?).getD (.v undef))))) rfl ?_
  refine mC0 (aQOf (isi_lit (l := [1, 4, 4]) (n := 3) rfl (fun i hi => match i, hi with | 0, _ => rfl | 1, _ => rfl | 2, _ => rfl)) (by decide) (by omega)) rfl rfl rfl ?_
  refine mV hTT _ rfl ?_
  refine mC0 (aIs (K := 64) (L := 24040) (n := (dg (rc (lst [1, 4, 4])) 3)) (m := (dg (mvZ (lst [0, 0, 1]) 1 2 (dg (lst [0, 0, 1]) (dg (lst [0, 0, 1]) 3)) (dg (lst [0, 0, 1]) (dg (lst [0, 0, 1]) 3))) (dg (lst [0, 0, 1]) (dg (lst [0, 0, 1]) 3) + 1))) (q := (rc (lst [1, 4, 4]))) (c := (mvZ (lst [0, 0, 1]) 1 2 (dg (lst [0, 0, 1]) (dg (lst [0, 0, 1]) 3)) (dg (lst [0, 0, 1]) (dg (lst [0, 0, 1]) 3)))) (fun _ _ _ h => h) (fun _ _ _ h => h) (wakes_q.trans wakes_n.symm) (fun i hi => congrArg (fun z : Int => (z : Rat)) (wakes_c i (Nat.lt_of_lt_of_le hi (by decide)))) (by decide)) rfl rfl rfl ?_
  refine mV hTT _ rfl ?_
  refine mV hTT _ rfl ?_
  refine mNil ?_
  refine tN ?_
  refine cRet ?_
  exact rQ rfl (AV.le.rfl)

end Go.Proofs.Ytnnpjkalkfoolaa

/-
  THE LAWS PolyValues and PolyFar, by the machine.
-/
set_option linter.unusedVariables false
set_option linter.unusedSimpArgs false
namespace Go.Proofs.Ytnnpjkalkfoolaa
open Go.RowKit

set_option maxRecDepth 100000 in
set_option maxHeartbeats 4000000 in
theorem aPolyValues {K L n : Nat} {f : Nat → Bool × List Nat} {s t : Bool} {xs ys : List Nat} (hK : K ≤ 9223372036854775807) (hL : L ≤ 9223372036854775807) : ACall Try.prog 10 [.one (arow K n f), .agg (tan L s xs t ys)] (.d (.one (.v (.bool true)))) := by
  refine acallN hTT 77 [.tmp 4] Try.func10 rfl rfl rfl rfl rfl ?_
  refine cSeq ?_
  refine cReg ?_
  refine mN hTT (.box 73 ([.v (.bool s), lr L xs] ++ [.v (.bool t), lr L ys])) rfl rfl rfl ?_
  refine mV hTT _ rfl ?_
  refine mNil ?_
  refine tN ?_
  refine cSeq ?_
  refine cReg ?_
  refine mV hTT _ rfl ?_
  refine mC0 (aCut (K := K) (n := n) (m := 8) (k := 3) (f := f) (M := 64) (by decide) (by decide) (by decide) (by omega)) rfl rfl rfl ?_
  refine mV hTT _ rfl ?_
  refine mV hTT _ rfl ?_
  refine mV hTT _ rfl ?_
  refine mV hTT _ rfl ?_
  refine mV hTT _ rfl ?_
  refine mNil ?_
  refine tN ?_
  refine cSeq ?_
  refine cReg ?_
  refine mV hTT (.d (.agg ([.v (.bool s), lr L xs] ++ [.v (.bool t), lr L ys]))) rfl ?_
  refine mC0 (aKRat (K := L) (k := 2) (s := s) (t := t) (xs := xs) (ys := ys) (by omega) (by omega)) rfl rfl rfl ?_
  refine mS hTT 3 (.box 73 ([.v (.bool s), lr 2 (xs.take 2)] ++ [.v (.bool t), lr 2 (ys.take 2)])) rfl ?_
  refine mNil ?_
  refine tN ?_
  refine cSeq ?_
  refine cReg ?_
  refine mV hTT (.d (.agg ([.v (.bool s), lr 2 (xs.take 2)] ++ [.v (.bool t), lr 2 (ys.take 2)]))) rfl ?_
  refine mC0 (aRFromR (⟨s, (xs.take 2), t, (ys.take 2), fun _ _ _ h => h, rfl, rfl⟩ : IsT ([.v (.bool s), lr 2 (xs.take 2)] ++ [.v (.bool t), lr 2 (ys.take 2)]) 2 (zv s (val (xs.take 2))) (zv t (val (ys.take 2)))) (M := 64) (by decide) (by decide)) rfl rfl rfl ?_
  refine mN hTT (.box 43 ([.v (.slice none 0 0), .v (.bool false), .v (.slice none 0 0), .v (.bool false)])) rfl rfl rfl ?_
  refine mS hTT 6 (.box 43 (qn 64 (mkR (zv s (val (xs.take 2))) (zv t (val (ys.take 2)))))) rfl ?_
  refine mNil ?_
  refine tN ?_
  refine cSeq ?_
  refine cReg ?_
  refine mC0 (aROf (n := 0) (by decide) (by decide)) rfl rfl rfl ?_
  refine mN hTT (.box 38 ([.v (.slice none 0 0), .v (.bool false)])) rfl rfl rfl ?_
  refine mS hTT 7 (.box 38 (rn 64 0)) rfl ?_
  refine mNil ?_
  refine tN ?_
  refine cSeq ?_
  refine cSeq ?_
  have hdl : (dg (cfz (min n 8) (cutf 3 f)) (min n 8)) ≤ 8 := Nat.le_trans (dg_le _ _) (Nat.min_le_right _ _)
  by_cases h0a : (dg (cfz (min n 8) (cutf 3 f)) (min n 8)) = 0
  · skip
    have hl0 : (cfz (min n 8) (cutf 3 f)) ((dg (cfz (min n 8) (cutf 3 f)) (min n 8)) - 1) = 0 := dg_all cfz_z h0a _
    refine cReg ?_
    refine mV hTT _ rfl ?_
    refine mV hTT (.d (.one (.v (.int .i64 ((dg (cfz (min n 8) (cutf 3 f)) (min n 8) : Nat) : Int))))) rfl ?_
    refine mV hTT (.d (.one (.v (.bool false)))) (evb (decide_eq_false (by omega))) ?_
    refine mNil ?_
    refine tN ?_
    refine cF rfl ?_
    refine cSkip ?_
    refine tN ?_
    refine cSeq ?_
    refine cReg ?_
    refine mV hTT _ rfl ?_
    refine mC0 (aPEnds (⟨⟨(cutf 3 f), fun _ _ _ h => h, (fun i hi => (show cfz (min n 8) (cutf 3 f) i = fzv (cutf 3 f) i from if_pos hi).symm)⟩, cfz_z⟩ : IsP (arow 3 (min n 8) (cutf 3 f)) 3 (min n 8) (cfz (min n 8) (cutf 3 f))) (by omega)) rfl rfl rfl ?_
    refine mV hTT _ rfl ?_
    refine mV hTT _ rfl ?_
    refine mV hTT _ rfl ?_
    refine mV hTT _ rfl ?_
    refine mV hTT _ rfl ?_
    refine mNil ?_
    refine tN ?_
    refine cSeq ?_
    refine cReg ?_
    refine mV hTT _ rfl ?_
    refine mC0 (aQEnds (K := 64) (n := (dg (cfz (min n 8) (cutf 3 f)) (min n 8))) (c := (cfz (min n 8) (cutf 3 f))) (by omega)) rfl rfl rfl ?_
    refine mV hTT _ rfl ?_
    refine mV hTT _ rfl ?_
    refine mV hTT _ rfl ?_
    refine mV hTT _ rfl ?_
    refine mV hTT _ rfl ?_
    refine mNil ?_
    refine tN ?_
    refine cSeq ?_
    refine cDrawK hTT 36 (by kernel_rfl) (by kernel_rfl) (by kernel_rfl) ?_
    refine .cons (OpS.V _ rfl) ?_
    refine .cons (OpS.V (.d (.agg (qn 64 (mkR (zv s (val (xs.take 2))) (zv t (val (ys.take 2))))))) rfl) ?_
    refine .cons (OpS.C0 (aQVal (isqp (K := 64) (c := (rc (cfz (min n 8) (cutf 3 f)))) (rc_z (dg_z cfz_z))) (isq 64 (mkR (zv s (val (xs.take 2))) (zv t (val (ys.take 2))))) (D := 8) (T := 268) (M := 2412) (by omega)) rfl rfl rfl) ?_
    refine .cons (OpS.V _ rfl) ?_
    refine .cons (OpS.V (.d (.agg ([.v (.bool s), lr 2 (xs.take 2)] ++ [.v (.bool t), lr 2 (ys.take 2)]))) rfl) ?_
    refine .cons (OpS.C0 (aPVal (⟨⟨(cutf 3 f), fun _ _ _ h => h, (fun i hi => (show cfz (min n 8) (cutf 3 f) i = fzv (cutf 3 f) i from if_pos hi).symm)⟩, cfz_z⟩ : IsP (arow 3 (min n 8) (cutf 3 f)) 3 (min n 8) (cfz (min n 8) (cutf 3 f))) (⟨s, (xs.take 2), t, (ys.take 2), fun _ _ _ h => h, rfl, rfl⟩ : IsT ([.v (.bool s), lr 2 (xs.take 2)] ++ [.v (.bool t), lr 2 (ys.take 2)]) 2 (zv s (val (xs.take 2))) (zv t (val (ys.take 2)))) (D := 8) (T := 14) (M := 126) (N := 127) (by omega)) rfl rfl rfl) ?_
    refine .cons (OpS.C0 (aRSameR (isq 2412 (vlQ (rc (cfz (min n 8) (cutf 3 f))) (mkR (zv s (val (xs.take 2))) (zv t (val (ys.take 2)))) (dg (cfz (min n 8) (cutf 3 f)) (min n 8)) (dg (cfz (min n 8) (cutf 3 f)) (min n 8)))) (istn 127 (vlQ (rc (cfz (min n 8) (cutf 3 f))) (mkR (zv s (val (xs.take 2))) (zv t (val (ys.take 2)))) (dg (cfz (min n 8) (cutf 3 f)) (min n 8)) (dg (cfz (min n 8) (cutf 3 f)) (min n 8)))) (by decide) (by decide)) rfl rfl rfl) ?_
    refine .cons (OpS.V _ rfl) ?_
    refine .cons (OpS.V _ rfl) ?_
    refine .cons (OpS.V (.d (.agg ([.v (.bool s), lr 2 (xs.take 2)] ++ [.v (.bool t), lr 2 (ys.take 2)]))) rfl) ?_
    refine .cons (OpS.C0 (aPSign (⟨⟨(cutf 3 f), fun _ _ _ h => h, (fun i hi => (show cfz (min n 8) (cutf 3 f) i = fzv (cutf 3 f) i from if_pos hi).symm)⟩, cfz_z⟩ : IsP (arow 3 (min n 8) (cutf 3 f)) 3 (min n 8) (cfz (min n 8) (cutf 3 f))) (⟨s, (xs.take 2), t, (ys.take 2), fun _ _ _ h => h, rfl, rfl⟩ : IsT ([.v (.bool s), lr 2 (xs.take 2)] ++ [.v (.bool t), lr 2 (ys.take 2)]) 2 (zv s (val (xs.take 2))) (zv t (val (ys.take 2)))) (D := 8) (T := 14) (M := 126) (by omega)) rfl rfl rfl) ?_
    refine .cons (OpS.V _ rfl) ?_
    refine .cons (OpS.V (.d (.agg (qn 64 (mkR (zv s (val (xs.take 2))) (zv t (val (ys.take 2))))))) rfl) ?_
    refine .cons (OpS.C0 (aQSign (K := 64) (c := (cfz (min n 8) (cutf 3 f))) (fun _ _ _ h => h) (isq 64 (mkR (zv s (val (xs.take 2))) (zv t (val (ys.take 2))))) (D := 8) (T := 268) (M := 2412) (by omega)) rfl rfl rfl) ?_
    refine .cons (OpS.V (.d (.one (.v (.bool true)))) (evb (beq_self_eq_true _))) ?_
    refine .cons (OpS.V _ rfl) ?_
    refine .cons (OpS.V _ rfl) ?_
    refine .cons (OpS.V (.d (.agg (rn 64 0))) rfl) ?_
    refine .cons (OpS.V _ rfl) ?_
    refine .cons (OpS.C0 (aPLead (⟨⟨(cutf 3 f), fun _ _ _ h => h, (fun i hi => (show cfz (min n 8) (cutf 3 f) i = fzv (cutf 3 f) i from if_pos hi).symm)⟩, cfz_z⟩ : IsP (arow 3 (min n 8) (cutf 3 f)) 3 (min n 8) (cfz (min n 8) (cutf 3 f))) (by omega) (by decide)) rfl rfl rfl) ?_
    refine .cons (OpS.C0 (aRSame (IsR.eq (isr 64 0) hl0.symm) (isn 3 ((cfz (min n 8) (cutf 3 f)) (dg (cfz (min n 8) (cutf 3 f)) (min n 8) - 1))) (by decide) (by decide)) rfl rfl rfl) ?_
    refine .cons (OpS.V _ rfl) ?_
    refine .cons (OpS.V _ rfl) ?_
    refine .cons (OpS.V _ rfl) ?_
    refine .cons (OpS.V _ rfl) ?_
    refine .cons (OpS.V (.d (.one (.v (.bool true)))) (evb (by rw [if_pos h0a, hl0]; split <;> rfl))) ?_
    refine .cons (OpS.V _ rfl) ?_
    refine .cons (OpS.V _ rfl) ?_
    refine .cons (OpS.V _ rfl) ?_
    refine .cons (OpS.V _ rfl) ?_
    refine .cons (OpS.V (.d (.one (.v (.bool true)))) (evb (by rw [if_pos h0a, hl0]; rfl))) ?_
    refine .cons (OpS.V _ rfl) ?_
    refine .cons (OpS.V _ rfl) ?_
    refine .cons (OpS.C0 (aWakes) rfl rfl rfl) ?_
    refine .cons (OpS.V _ rfl) ?_
    refine .cons (OpS.V _ rfl) ?_
    refine .nil ?_
    refine mNil ?_
    refine tN ?_
    refine cRet ?_
    exact rQ rfl (AV.le.rfl)
  · skip
    refine cReg ?_
    refine mV hTT _ rfl ?_
    refine mV hTT (.d (.one (.v (.int .i64 ((dg (cfz (min n 8) (cutf 3 f)) (min n 8) : Nat) : Int))))) rfl ?_
    refine mV hTT (.d (.one (.v (.bool true)))) (evb (decide_eq_true (by omega))) ?_
    refine mNil ?_
    refine tN ?_
    refine cT rfl ?_
    refine cReg ?_
    refine mV hTT _ rfl ?_
    refine mV hTT _ rfl ?_
    refine mV hTT (.d (.one (.v (.int .i64 ((dg (cfz (min n 8) (cutf 3 f)) (min n 8) : Nat) : Int))))) rfl ?_
    refine mV hTT (.d (.one (.v (.int .i64 (((dg (cfz (min n 8) (cutf 3 f)) (min n 8)) - 1 : Nat) : Int))))) (evi ((wr64 (by omega) (by omega)).trans (by omega))) ?_
    refine mV hTT (.d (.one (.at 4 ((qel 64 (rc (cfz (min n 8) (cutf 3 f)))) ((dg (cfz (min n 8) (cutf 3 f)) (min n 8)) - 1))))) (ixR (el := (qel 64 (rc (cfz (min n 8) (cutf 3 f))))) (z := (((dg (cfz (min n 8) (cutf 3 f)) (min n 8)) - 1 : Nat) : Int)) (n := (dg (cfz (min n 8) (cutf 3 f)) (min n 8))) rfl rfl rfl rfl rfl rfl (by omega) (by omega)) ?_
    refine mV hTT _ rfl ?_
    refine mV hTT (.d (.agg (rn 64 (Rat.num ((rc (cfz (min n 8) (cutf 3 f))) ((dg (cfz (min n 8) (cutf 3 f)) (min n 8)) - 1)))))) rfl ?_
    refine mS hTT 7 (.box 38 (rn 64 (Rat.num ((rc (cfz (min n 8) (cutf 3 f))) ((dg (cfz (min n 8) (cutf 3 f)) (min n 8)) - 1))))) rfl ?_
    refine mNil ?_
    refine tN ?_
    refine cSeq ?_
    refine cReg ?_
    refine mV hTT _ rfl ?_
    refine mC0 (aPEnds (⟨⟨(cutf 3 f), fun _ _ _ h => h, (fun i hi => (show cfz (min n 8) (cutf 3 f) i = fzv (cutf 3 f) i from if_pos hi).symm)⟩, cfz_z⟩ : IsP (arow 3 (min n 8) (cutf 3 f)) 3 (min n 8) (cfz (min n 8) (cutf 3 f))) (by omega)) rfl rfl rfl ?_
    refine mV hTT _ rfl ?_
    refine mV hTT _ rfl ?_
    refine mV hTT _ rfl ?_
    refine mV hTT _ rfl ?_
    refine mV hTT _ rfl ?_
    refine mNil ?_
    refine tN ?_
    refine cSeq ?_
    refine cReg ?_
    refine mV hTT _ rfl ?_
    refine mC0 (aQEnds (K := 64) (n := (dg (cfz (min n 8) (cutf 3 f)) (min n 8))) (c := (cfz (min n 8) (cutf 3 f))) (by omega)) rfl rfl rfl ?_
    refine mV hTT _ rfl ?_
    refine mV hTT _ rfl ?_
    refine mV hTT _ rfl ?_
    refine mV hTT _ rfl ?_
    refine mV hTT _ rfl ?_
    refine mNil ?_
    refine tN ?_
    refine cSeq ?_
    refine cDrawK hTT 36 (by kernel_rfl) (by kernel_rfl) (by kernel_rfl) ?_
    refine .cons (OpS.V _ rfl) ?_
    refine .cons (OpS.V (.d (.agg (qn 64 (mkR (zv s (val (xs.take 2))) (zv t (val (ys.take 2))))))) rfl) ?_
    refine .cons (OpS.C0 (aQVal (isqp (K := 64) (c := (rc (cfz (min n 8) (cutf 3 f)))) (rc_z (dg_z cfz_z))) (isq 64 (mkR (zv s (val (xs.take 2))) (zv t (val (ys.take 2))))) (D := 8) (T := 268) (M := 2412) (by omega)) rfl rfl rfl) ?_
    refine .cons (OpS.V _ rfl) ?_
    refine .cons (OpS.V (.d (.agg ([.v (.bool s), lr 2 (xs.take 2)] ++ [.v (.bool t), lr 2 (ys.take 2)]))) rfl) ?_
    refine .cons (OpS.C0 (aPVal (⟨⟨(cutf 3 f), fun _ _ _ h => h, (fun i hi => (show cfz (min n 8) (cutf 3 f) i = fzv (cutf 3 f) i from if_pos hi).symm)⟩, cfz_z⟩ : IsP (arow 3 (min n 8) (cutf 3 f)) 3 (min n 8) (cfz (min n 8) (cutf 3 f))) (⟨s, (xs.take 2), t, (ys.take 2), fun _ _ _ h => h, rfl, rfl⟩ : IsT ([.v (.bool s), lr 2 (xs.take 2)] ++ [.v (.bool t), lr 2 (ys.take 2)]) 2 (zv s (val (xs.take 2))) (zv t (val (ys.take 2)))) (D := 8) (T := 14) (M := 126) (N := 127) (by omega)) rfl rfl rfl) ?_
    refine .cons (OpS.C0 (aRSameR (isq 2412 (vlQ (rc (cfz (min n 8) (cutf 3 f))) (mkR (zv s (val (xs.take 2))) (zv t (val (ys.take 2)))) (dg (cfz (min n 8) (cutf 3 f)) (min n 8)) (dg (cfz (min n 8) (cutf 3 f)) (min n 8)))) (istn 127 (vlQ (rc (cfz (min n 8) (cutf 3 f))) (mkR (zv s (val (xs.take 2))) (zv t (val (ys.take 2)))) (dg (cfz (min n 8) (cutf 3 f)) (min n 8)) (dg (cfz (min n 8) (cutf 3 f)) (min n 8)))) (by decide) (by decide)) rfl rfl rfl) ?_
    refine .cons (OpS.V _ rfl) ?_
    refine .cons (OpS.V _ rfl) ?_
    refine .cons (OpS.V (.d (.agg ([.v (.bool s), lr 2 (xs.take 2)] ++ [.v (.bool t), lr 2 (ys.take 2)]))) rfl) ?_
    refine .cons (OpS.C0 (aPSign (⟨⟨(cutf 3 f), fun _ _ _ h => h, (fun i hi => (show cfz (min n 8) (cutf 3 f) i = fzv (cutf 3 f) i from if_pos hi).symm)⟩, cfz_z⟩ : IsP (arow 3 (min n 8) (cutf 3 f)) 3 (min n 8) (cfz (min n 8) (cutf 3 f))) (⟨s, (xs.take 2), t, (ys.take 2), fun _ _ _ h => h, rfl, rfl⟩ : IsT ([.v (.bool s), lr 2 (xs.take 2)] ++ [.v (.bool t), lr 2 (ys.take 2)]) 2 (zv s (val (xs.take 2))) (zv t (val (ys.take 2)))) (D := 8) (T := 14) (M := 126) (by omega)) rfl rfl rfl) ?_
    refine .cons (OpS.V _ rfl) ?_
    refine .cons (OpS.V (.d (.agg (qn 64 (mkR (zv s (val (xs.take 2))) (zv t (val (ys.take 2))))))) rfl) ?_
    refine .cons (OpS.C0 (aQSign (K := 64) (c := (cfz (min n 8) (cutf 3 f))) (fun _ _ _ h => h) (isq 64 (mkR (zv s (val (xs.take 2))) (zv t (val (ys.take 2))))) (D := 8) (T := 268) (M := 2412) (by omega)) rfl rfl rfl) ?_
    refine .cons (OpS.V (.d (.one (.v (.bool true)))) (evb (beq_self_eq_true _))) ?_
    refine .cons (OpS.V _ rfl) ?_
    refine .cons (OpS.V _ rfl) ?_
    refine .cons (OpS.V (.d (.agg (rn 64 (Rat.num ((rc (cfz (min n 8) (cutf 3 f))) ((dg (cfz (min n 8) (cutf 3 f)) (min n 8)) - 1)))))) rfl) ?_
    refine .cons (OpS.V _ rfl) ?_
    refine .cons (OpS.C0 (aPLead (⟨⟨(cutf 3 f), fun _ _ _ h => h, (fun i hi => (show cfz (min n 8) (cutf 3 f) i = fzv (cutf 3 f) i from if_pos hi).symm)⟩, cfz_z⟩ : IsP (arow 3 (min n 8) (cutf 3 f)) 3 (min n 8) (cfz (min n 8) (cutf 3 f))) (by omega) (by decide)) rfl rfl rfl) ?_
    refine .cons (OpS.C0 (aRSame (IsR.eq (isr 64 (Rat.num ((rc (cfz (min n 8) (cutf 3 f))) ((dg (cfz (min n 8) (cutf 3 f)) (min n 8)) - 1)))) (Rat.num_intCast _)) (isn 3 ((cfz (min n 8) (cutf 3 f)) (dg (cfz (min n 8) (cutf 3 f)) (min n 8) - 1))) (by decide) (by decide)) rfl rfl rfl) ?_
    refine .cons (OpS.V _ rfl) ?_
    refine .cons (OpS.V _ rfl) ?_
    refine .cons (OpS.V _ rfl) ?_
    refine .cons (OpS.V _ rfl) ?_
    refine .cons (OpS.V (.d (.one (.v (.bool true)))) (evb (by rw [if_neg h0a]; exact beq_self_eq_true _))) ?_
    refine .cons (OpS.V _ rfl) ?_
    refine .cons (OpS.V _ rfl) ?_
    refine .cons (OpS.V _ rfl) ?_
    refine .cons (OpS.V _ rfl) ?_
    refine .cons (OpS.V (.d (.one (.v (.bool true)))) (evb (by rw [if_neg h0a]; exact beq_self_eq_true _))) ?_
    refine .cons (OpS.V _ rfl) ?_
    refine .cons (OpS.V _ rfl) ?_
    refine .cons (OpS.C0 (aWakes) rfl rfl rfl) ?_
    refine .cons (OpS.V _ rfl) ?_
    refine .cons (OpS.V _ rfl) ?_
    refine .nil ?_
    refine mNil ?_
    refine tN ?_
    refine cRet ?_
    exact rQ rfl (AV.le.rfl)

set_option maxRecDepth 100000 in
set_option maxHeartbeats 4000000 in
theorem aPolyFar {K n : Nat} {f : Nat → Bool × List Nat} (hK : K ≤ 9223372036854775807) : ACall Try.prog 7 [.one (arow K n f)] (.d (.one (.v (.bool true)))) := by
  refine acallN hTT 54 [.tmp 2] Try.func7 rfl rfl rfl rfl rfl ?_
  refine cSeq ?_
  refine cReg ?_
  refine mV hTT _ rfl ?_
  refine mNil ?_
  refine tN ?_
  refine cSeq ?_
  refine cReg ?_
  refine mV hTT _ rfl ?_
  refine mC0 (aCut (K := K) (n := n) (m := 7) (k := 2) (f := f) (M := 64) (by decide) (by decide) (by decide) (by omega)) rfl rfl rfl ?_
  refine mV hTT _ rfl ?_
  refine mV hTT _ rfl ?_
  refine mV hTT _ rfl ?_
  refine mV hTT _ rfl ?_
  refine mV hTT _ rfl ?_
  refine mNil ?_
  refine tN ?_
  refine cSeq ?_
  refine cSeq ?_
  have hdl : (dg (cfz (min n 7) (cutf 2 f)) (min n 7)) ≤ 7 := Nat.le_trans (dg_le _ _) (Nat.min_le_right _ _)
  by_cases h0a : (dg (cfz (min n 7) (cutf 2 f)) (min n 7)) = 0
  · skip
    refine cReg ?_
    refine mV hTT _ rfl ?_
    refine mV hTT (.d (.one (.v (.int .i64 ((dg (cfz (min n 7) (cutf 2 f)) (min n 7) : Nat) : Int))))) rfl ?_
    refine mV hTT (.d (.one (.v (.bool true)))) (evb (by rw [h0a]; rfl)) ?_
    refine mNil ?_
    refine tN ?_
    refine cT rfl ?_
    refine cSeq ?_
    refine cReg ?_
    refine mC0 (aWakes) rfl rfl rfl ?_
    refine mV hTT _ rfl ?_
    refine mNil ?_
    refine tN ?_
    refine cRet ?_
    refine tR ?_
    exact rQ rfl (AV.le.rfl)
  · skip
    refine cReg ?_
    refine mV hTT _ rfl ?_
    refine mV hTT (.d (.one (.v (.int .i64 ((dg (cfz (min n 7) (cutf 2 f)) (min n 7) : Nat) : Int))))) rfl ?_
    refine mV hTT (.d (.one (.v (.bool false)))) (evb (beq_eq_false_iff_ne.2 fun e => h0a (by omega))) ?_
    refine mNil ?_
    refine tN ?_
    refine cF rfl ?_
    refine cSkip ?_
    refine tN ?_
    refine cSeq ?_
    refine cReg ?_
    refine mC0 (aOf (n := 1) (by decide) (by decide)) rfl rfl rfl ?_
    refine mN hTT (.box 26 ([.v (.bool false), .v (.slice none 0 0)])) rfl rfl rfl ?_
    refine mS hTT 4 (.box 26 (zn 2 1)) rfl ?_
    refine mNil ?_
    refine tN ?_
    refine cSeq ?_
    refine cSeq ?_
    refine cReg ?_
    refine mV hTT _ rfl ?_
    refine mV hTT (.d (.one (.v (.int .i64 ((min n 7 : Nat) : Int))))) rfl ?_
    refine mV hTT _ rfl ?_
    refine mNil ?_
    refine tN ?_
    refine cBlock ?_
    refine cLoop (ι := Nat) (fun (i : Nat) => ⟨54, [(0, .d (.one (.row 2 (min n 7) (ael 2 (cutf 2 f))))), (4, .ptr 4 0), (19, .d (.one (.v (.int .i64 ((min n 7 : Nat) : Int))))), (20, .d (.one (.v (.int .i64 ((i : Nat) : Int)))))], [(4, .box 26 (zn (2 + i) (1 + szs (cfz (min n 7) (cutf 2 f)) i)))]⟩) (fun (i : Nat) => i ≤ (min n 7)) (fun (i : Nat) => (min n 7) - i) 0 (Nat.zero_le _) (wk (sl := [(0, .d (.one (.row 2 (min n 7) (ael 2 (cutf 2 f))))), (4, .ptr 4 0), (19, .d (.one (.v (.int .i64 ((min n 7 : Nat) : Int))))), (20, .d (.one (.v (.int .i64 ((0 : Nat) : Int)))))]) (hp := [(4, .box 26 (zn (2 + 0) (1 + szs (cfz (min n 7) (cutf 2 f)) 0)))]) rfl ⟨hs rfl, hs rfl, hs rfl, hs rfl, trivial⟩ ⟨ho' rfl (leo_zn (by omega) (Int.add_zero _).symm), trivial⟩ rfl) ?_
    rintro i hI
    have hi : i ≤ (min n 7) := hI
    show AW Try.prog _ _ ⟨54, [(0, .d (.one (.row 2 (min n 7) (ael 2 (cutf 2 f))))), (4, .ptr 4 0), (19, .d (.one (.v (.int .i64 ((min n 7 : Nat) : Int))))), (20, .d (.one (.v (.int .i64 ((i : Nat) : Int)))))], [(4, .box 26 (zn (2 + i) (1 + szs (cfz (min n 7) (cutf 2 f)) i)))]⟩
    refine cSeq ?_
    refine cReg ?_
    refine mV hTT (.d (.one (.v (.bool (decide (((i : Nat) : Int) < ((min n 7 : Nat) : Int))))))) rfl ?_
    refine mNil ?_
    refine tN ?_
    refine cSeq ?_
    refine cCond rfl (fun hc1 => ?_) (fun hc1 => ?_)
    · skip
      refine cSkip ?_
      refine tN ?_
      refine cSeq ?_
      refine cBlock ?_
      refine cSeq ?_
      have hin : i < (min n 7) := by have h0 := of_decide_eq_true hc1; omega
      refine cReg ?_
      refine mV hTT _ rfl ?_
      refine mV hTT _ rfl ?_
      refine mNil ?_
      refine tN ?_
      refine cDrawK hTT 7 (by kernel_rfl) (by kernel_rfl) (by kernel_rfl) ?_
      refine .cons (OpS.V (.d (.agg (zn (2 + i) (1 + szs (cfz (min n 7) (cutf 2 f)) i)))) rfl) ?_
      refine .cons (OpS.V _ rfl) ?_
      refine .cons (OpS.V _ rfl) ?_
      refine .cons (OpS.V (.d (.one (.at 2 ((ael 2 (cutf 2 f)) i)))) (ixR (el := (ael 2 (cutf 2 f))) (z := ((i : Nat) : Int)) (n := (min n 7)) rfl rfl rfl rfl rfl rfl (by omega) (by omega))) ?_
      refine .cons (OpS.V (.d (.agg ([.v (.bool (((cutf 2 f) i).1)), lr 2 (((cutf 2 f) i).2)]))) rfl) ?_
      refine .cons (OpS.C0 (aAbs ⟨_, _, fun _ _ _ h => h, (fun i hi => (show cfz (min n 7) (cutf 2 f) i = fzv (cutf 2 f) i from if_pos hi).symm) i (by omega)⟩ (by decide)) rfl rfl rfl) ?_
      refine .cons (OpS.C0 (aAdd (isz (2 + i) (1 + szs (cfz (min n 7) (cutf 2 f)) i)) (isz 2 (Int.natAbs ((cfz (min n 7) (cutf 2 f)) i) : Int)) (M := (max (2 + i) 2 + 1)) (by omega) (by omega) (by decide)) rfl rfl rfl) ?_
      refine .nil ?_
      refine mS hTT 4 (.box 26 (zn (max (2 + i) 2 + 1) ((1 + szs (cfz (min n 7) (cutf 2 f)) i) + (Int.natAbs ((cfz (min n 7) (cutf 2 f)) i) : Int)))) rfl ?_
      refine mNil ?_
      refine bN ?_
      refine tN ?_
      refine cReg ?_
      refine mV hTT (.d (.one (.v (.int .i64 (IntKind.i64.wrap (((i : Nat) : Int) + 1)))))) rfl ?_
      refine mV hTT _ rfl ?_
      refine mNil ?_
      exact ⟨(i + 1), by omega, by omega, wk (sl := [(0, .d (.one (.row 2 (min n 7) (ael 2 (cutf 2 f))))), (4, .ptr 4 0), (19, .d (.one (.v (.int .i64 ((min n 7 : Nat) : Int))))), (20, .d (.one (.v (.int .i64 (((i + 1) : Nat) : Int)))))]) (hp := [(4, .box 26 (zn (2 + (i + 1)) (1 + szs (cfz (min n 7) (cutf 2 f)) (i + 1))))]) rfl ⟨hs rfl, hs rfl, hs rfl, hs' rfl (le_int (inc64 (by omega))), trivial⟩ ⟨ho' rfl (leo_zn (by omega) (Int.add_assoc _ _ _)), trivial⟩ rfl⟩
    · skip
      refine cExit ?_
      refine tE ?_
      refine tE ?_
      refine bE ?_
      refine tN ?_
      refine cSeq ?_
      have hie : (min n 7) = i := by have h0 := of_decide_eq_false hc1; omega
      subst hie
      refine AW.wk (wk (sl := [(0, .d (.one (.row 2 (min n 7) (ael 2 (cutf 2 f))))), (4, .ptr 4 0)]) (hp := [(4, .box 26 (zn 9 (1 + szs (cfz (min n 7) (cutf 2 f)) (min n 7))))]) rfl ⟨hs rfl, hs rfl, trivial⟩ ⟨ho' rfl (leo_zn (by omega) rfl), trivial⟩ rfl) ?_
      have hne := dg_ne h0a
      have hdN := dg_le (cfz (min n 7) (cutf 2 f)) (min n 7)
      refine cReg ?_
      refine mV hTT _ rfl ?_
      refine mC0 (aPEnds (⟨⟨(cutf 2 f), fun _ _ _ h => h, (fun i hi => (show cfz (min n 7) (cutf 2 f) i = fzv (cutf 2 f) i from if_pos hi).symm)⟩, cfz_z⟩ : IsP (arow 2 (min n 7) (cutf 2 f)) 2 (min n 7) (cfz (min n 7) (cutf 2 f))) (by omega)) rfl rfl rfl ?_
      refine mV hTT _ rfl ?_
      refine mV hTT _ rfl ?_
      refine mV hTT _ rfl ?_
      refine mV hTT _ rfl ?_
      refine mV hTT _ rfl ?_
      refine mNil ?_
      refine tN ?_
      refine cSeq ?_
      refine cReg ?_
      refine mV hTT _ rfl ?_
      refine mV hTT (.d (.agg (zn 9 (1 + szs (cfz (min n 7) (cutf 2 f)) (min n 7))))) rfl ?_
      refine mC0 (aTInt (isz 9 (1 + szs (cfz (min n 7) (cutf 2 f)) (min n 7))) (M := 9) (by decide) (by decide)) rfl rfl rfl ?_
      refine mC0 (aPSign (⟨⟨(cutf 2 f), fun _ _ _ h => h, (fun i hi => (show cfz (min n 7) (cutf 2 f) i = fzv (cutf 2 f) i from if_pos hi).symm)⟩, cfz_z⟩ : IsP (arow 2 (min n 7) (cutf 2 f)) 2 (min n 7) (cfz (min n 7) (cutf 2 f))) (ist_tn 9 (((1 + szs (cfz (min n 7) (cutf 2 f)) (min n 7)) : Int) : Rat)) (D := 7) (T := 27) (M := 216) (by omega)) rfl rfl rfl ?_
      refine mV hTT _ rfl ?_
      refine mV hTT (.d (.one (.v (.bool true)))) (evb (by rw [far_pos hdN h0a hne]; exact beq_self_eq_true _)) ?_
      refine mV hTT _ rfl ?_
      refine mV hTT _ rfl ?_
      refine mV hTT (.d (.agg (zn 9 (1 + szs (cfz (min n 7) (cutf 2 f)) (min n 7))))) rfl ?_
      refine mC0 (aNeg (isz 9 (1 + szs (cfz (min n 7) (cutf 2 f)) (min n 7))) (by decide)) rfl rfl rfl ?_
      refine mC0 (aTInt (isz 9 (-(1 + szs (cfz (min n 7) (cutf 2 f)) (min n 7)))) (M := 9) (by decide) (by decide)) rfl rfl rfl ?_
      refine mC0 (aPSign (⟨⟨(cutf 2 f), fun _ _ _ h => h, (fun i hi => (show cfz (min n 7) (cutf 2 f) i = fzv (cutf 2 f) i from if_pos hi).symm)⟩, cfz_z⟩ : IsP (arow 2 (min n 7) (cutf 2 f)) 2 (min n 7) (cfz (min n 7) (cutf 2 f))) (ist_tn 9 (((-(1 + szs (cfz (min n 7) (cutf 2 f)) (min n 7))) : Int) : Rat)) (D := 7) (T := 27) (M := 216) (by omega)) rfl rfl rfl ?_
      refine mV hTT _ rfl ?_
      refine mV hTT (.d (.one (.v (.bool true)))) (evb (by rw [far_neg hdN h0a hne]; exact beq_self_eq_true _)) ?_
      refine mV hTT _ rfl ?_
      refine mV hTT _ rfl ?_
      refine mC0 (aWakes) rfl rfl rfl ?_
      refine mV hTT _ rfl ?_
      refine mV hTT _ rfl ?_
      refine mNil ?_
      refine tN ?_
      refine cRet ?_
      exact rQ rfl (AV.le.rfl)

end Go.Proofs.Ytnnpjkalkfoolaa

