/-
  POLYNOMIALS, by the machine (5): sums and products of many, Move; the law's Cut, is, wakes.
-/
import Derived.Test.YtnnpjkalkfoolaaMz
set_option linter.unusedVariables false
set_option linter.unusedSimpArgs false
namespace Go.Proofs.Ytnnpjkalkfoolaa
open Go.RowKit

set_option maxRecDepth 100000 in
set_option maxHeartbeats 4000000 in
theorem aPSum {K M n N : Nat} {ns : Nat → Nat} {fs : Nat → Nat → Bool × List Nat} (hN : ∀ p, p < n → ns p ≤ N) (hM : K + n ≤ M) (hn : n ≤ 100000 := by decide) (hNN : N ≤ 100000 := by decide) (hMM : M ≤ 100000000 := by decide) : ACall Try.prog 25 [.one (prows K n ns fs)] (.d (.one (prow M (dg (sumc ns fs n) (N)) (sumc ns fs n)))) := by
  refine acallN hTT 17 [.tmp 2] Try.func25 rfl rfl rfl rfl rfl ?_
  refine cSeq ?_
  refine cReg ?_
  refine mV hTT _ rfl ?_
  refine mNil ?_
  refine tN ?_
  refine cSeq ?_
  refine cReg ?_
  refine mV hTT _ rfl ?_
  refine mNil ?_
  refine tN ?_
  refine cSeq ?_
  refine cSeq ?_
  refine cReg ?_
  refine mV hTT _ rfl ?_
  refine mV hTT (.d (.one (.v (.int .i64 (n : Int))))) rfl ?_
  refine mV hTT _ rfl ?_
  refine mNil ?_
  refine tN ?_
  refine cBlock ?_
  refine cLoop (ι := Nat) (fun (i : Nat) => ⟨17, [(6, .d (.one (.row 1 n (fun p _ => arow K (ns p) (fs p))))), (7, .d (.one (.v (.int .i64 (n : Int))))), (8, .d (.one (.v (.int .i64 ((i : Nat) : Int))))), (3, .d (.one (.row 2 (dg (sumc ns fs i) N) (zel (K + i) (sumc ns fs i)))))], []⟩) (fun (i : Nat) => i ≤ n) (fun (i : Nat) => n - i) 0 (Nat.zero_le _) (wk (sl := [(6, .d (.one (.row 1 n (fun p _ => arow K (ns p) (fs p))))), (7, .d (.one (.v (.int .i64 (n : Int))))), (8, .d (.one (.v (.int .i64 ((0 : Nat) : Int))))), (3, .d (.one (.row 2 (dg (sumc ns fs 0) N) (zel (K + 0) (sumc ns fs 0)))))]) (hp := []) rfl ⟨hs rfl, hs rfl, hs rfl, hs' rfl (nil_prow' (dg_zero (fun _ => rfl) _)), trivial⟩ trivial rfl) ?_
  rintro i hI
  have hi : i ≤ n := hI
  show AW Try.prog _ _ ⟨17, [(6, .d (.one (.row 1 n (fun p _ => arow K (ns p) (fs p))))), (7, .d (.one (.v (.int .i64 (n : Int))))), (8, .d (.one (.v (.int .i64 ((i : Nat) : Int))))), (3, .d (.one (.row 2 (dg (sumc ns fs i) N) (zel (K + i) (sumc ns fs i)))))], []⟩
  refine cSeq ?_
  refine cReg ?_
  refine mV hTT (.d (.one (.v (.bool (decide (((i : Nat) : Int) < (n : Int))))))) rfl ?_
  refine mNil ?_
  refine tN ?_
  refine cSeq ?_
  refine cCond rfl (fun hc1 => ?_) (fun hc1 => ?_)
  · skip
    refine cSkip ?_
    refine tN ?_
    refine cSeq ?_
    refine cBlock ?_
    refine cSeq ?_
    have hin : i < n := by have h0 := of_decide_eq_true hc1; omega
    have hdl := dg_le (sumc ns fs i) N
    have hni := hN i hin
    refine cReg ?_
    refine mV hTT (.d (.one (.at 1 ((fun p _ => arow K (ns p) (fs p)) i)))) (ixR (el := (fun p _ => arow K (ns p) (fs p))) (z := ((i : Nat) : Int)) (n := n) rfl rfl rfl rfl rfl rfl (by omega) (by omega)) ?_
    refine mV hTT (.d (.one (.row 2 (ns i) (ael K (fs i))))) rfl ?_
    refine mV hTT _ rfl ?_
    refine mNil ?_
    refine tN ?_
    refine cReg ?_
    refine mV hTT _ rfl ?_
    refine mV hTT _ rfl ?_
    refine mC0 (aPAdd (isp (K := (K + i)) (c := (sumc ns fs i)) (dg_z (sumc_z (i := i) fun p hp => hN p (by omega)))) (⟨⟨(fs i), fun _ _ _ h => h, (fun j hj => (if_pos hj).symm)⟩, cfz_z⟩ : IsP (arow K (ns i) (fs i)) K (ns i) (cfz (ns i) (fs i))) (M := (max (K + i) K + 1)) (by omega) (by omega) (by omega)) rfl rfl rfl ?_
    refine mV hTT _ rfl ?_
    refine mNil ?_
    refine bN ?_
    refine tN ?_
    refine cReg ?_
    refine mV hTT (.d (.one (.v (.int .i64 (IntKind.i64.wrap (((i : Nat) : Int) + 1)))))) rfl ?_
    refine mV hTT _ rfl ?_
    refine mNil ?_
    exact ⟨(i + 1), by omega, by omega, wk (sl := [(6, .d (.one (.row 1 n (fun p _ => arow K (ns p) (fs p))))), (7, .d (.one (.v (.int .i64 (n : Int))))), (8, .d (.one (.v (.int .i64 (((i + 1) : Nat) : Int))))), (3, .d (.one (.row 2 (dg (sumc ns fs (i + 1)) N) (zel (K + (i + 1)) (sumc ns fs (i + 1))))))]) (hp := []) rfl ⟨hs rfl, hs rfl, hs' rfl (le_int (inc64 (by omega))), hs' rfl (le_prow (by omega) (dg_eq (fadd_z (dg_z (sumc_z fun p hp => hN p (by omega))) cfz_z) (sumc_z (i := i + 1) fun p hp => hN p (by omega))) (fun _ _ => rfl)), trivial⟩ trivial rfl⟩
  · skip
    refine cExit ?_
    refine tE ?_
    refine tE ?_
    refine bE ?_
    refine tN ?_
    refine cSeq ?_
    refine cReg ?_
    refine mV hTT _ rfl ?_
    refine mV hTT _ rfl ?_
    refine mNil ?_
    refine tN ?_
    refine cRet ?_
    have hie : n = i := by have h0 := of_decide_eq_false hc1; omega
    subst hie
    exact rQ rfl (le_prow hM rfl (fun _ _ => rfl))

set_option maxRecDepth 100000 in
set_option maxHeartbeats 4000000 in
theorem aPProd {K M n N D T : Nat} {ns : Nat → Nat} {fs : Nat → Nat → Bool × List Nat} (hN : ∀ p, p < n → ns p ≤ N) (hn : n ≤ 1000) (hNN : N ≤ 1000) (hD : n * N + 1 ≤ D) (hDD : D ≤ 1000) (hT : K + 1 + D * 1000 ≤ T) (hM : 2 + n * T ≤ M) (hMM : M ≤ 100000000) : ACall Try.prog 26 [.one (prows K n ns fs)] (.d (.one (prow M (dg (prodc ns fs n) (n * N + 1)) (prodc ns fs n)))) := by
  refine acallN hTT 19 [.tmp 2] Try.func26 rfl rfl rfl rfl rfl ?_
  refine cSeq ?_
  refine cReg ?_
  refine mV hTT _ rfl ?_
  refine mNil ?_
  refine tN ?_
  refine cSeq ?_
  refine cReg ?_
  refine mB hTT (.d (.one (.row 1 1 (fun i' j' => (([.v (.int .i64 1)])[i' * 1 + j']?).getD (.v undef))))) rfl ?_
  refine mC0 (aPOf (isi_lit (l := [1]) (n := 1) rfl (fun i hi => match i, hi with | 0, _ => rfl)) (by decide) (by omega)) rfl rfl rfl ?_
  refine mV hTT _ rfl ?_
  refine mNil ?_
  refine tN ?_
  refine cSeq ?_
  refine cSeq ?_
  refine cReg ?_
  refine mV hTT _ rfl ?_
  refine mV hTT (.d (.one (.v (.int .i64 (n : Int))))) rfl ?_
  refine mV hTT _ rfl ?_
  refine mNil ?_
  refine tN ?_
  refine cBlock ?_
  refine cLoop (ι := Nat) (fun (i : Nat) => ⟨19, [(8, .d (.one (.row 1 n (fun p _ => arow K (ns p) (fs p))))), (9, .d (.one (.v (.int .i64 (n : Int))))), (10, .d (.one (.v (.int .i64 ((i : Nat) : Int))))), (3, .d (.one (.row 2 (dg (prodc ns fs i) (i * N + 1)) (zel (2 + i * T) (prodc ns fs i)))))], []⟩) (fun (i : Nat) => i ≤ n) (fun (i : Nat) => n - i) 0 (Nat.zero_le _) (wk (sl := [(8, .d (.one (.row 1 n (fun p _ => arow K (ns p) (fs p))))), (9, .d (.one (.v (.int .i64 (n : Int))))), (10, .d (.one (.v (.int .i64 ((0 : Nat) : Int))))), (3, .d (.one (.row 2 (dg (prodc ns fs 0) (0 * N + 1)) (zel (2 + 0 * T) (prodc ns fs 0)))))]) (hp := []) rfl ⟨hs rfl, hs rfl, hs rfl, hs' rfl (le_prow (by omega) (by rw [Nat.zero_mul]; rfl) (fun _ _ => rfl)), trivial⟩ trivial rfl) ?_
  rintro i hI
  have hi : i ≤ n := hI
  show AW Try.prog _ _ ⟨19, [(8, .d (.one (.row 1 n (fun p _ => arow K (ns p) (fs p))))), (9, .d (.one (.v (.int .i64 (n : Int))))), (10, .d (.one (.v (.int .i64 ((i : Nat) : Int))))), (3, .d (.one (.row 2 (dg (prodc ns fs i) (i * N + 1)) (zel (2 + i * T) (prodc ns fs i)))))], []⟩
  refine cSeq ?_
  refine cReg ?_
  refine mV hTT (.d (.one (.v (.bool (decide (((i : Nat) : Int) < (n : Int))))))) rfl ?_
  refine mNil ?_
  refine tN ?_
  refine cSeq ?_
  refine cCond rfl (fun hc1 => ?_) (fun hc1 => ?_)
  · skip
    refine cSkip ?_
    refine tN ?_
    refine cSeq ?_
    refine cBlock ?_
    refine cSeq ?_
    have hin : i < n := by have h0 := of_decide_eq_true hc1; omega
    have hdl := dg_le (prodc ns fs i) (i * N + 1)
    have hni := hN i hin
    have e1 : (i + 1) * T = i * T + T := Nat.succ_mul i T
    have e2 : (i + 1) * N = i * N + N := Nat.succ_mul i N
    have e3 : (i + 1) * T ≤ n * T := Nat.mul_le_mul_right T hin
    have e4 : (i + 1) * N ≤ n * N := Nat.mul_le_mul_right N hin
    refine cReg ?_
    refine mV hTT (.d (.one (.at 1 ((fun p _ => arow K (ns p) (fs p)) i)))) (ixR (el := (fun p _ => arow K (ns p) (fs p))) (z := ((i : Nat) : Int)) (n := n) rfl rfl rfl rfl rfl rfl (by omega) (by omega)) ?_
    refine mV hTT (.d (.one (.row 2 (ns i) (ael K (fs i))))) rfl ?_
    refine mV hTT _ rfl ?_
    refine mNil ?_
    refine tN ?_
    refine cReg ?_
    refine mV hTT _ rfl ?_
    refine mV hTT _ rfl ?_
    refine mC0 (aPMul (isp (K := (2 + i * T)) (c := (prodc ns fs i)) (dg_z (prodc_z (i := i) fun p hp => hN p (by omega)))) (⟨⟨(fs i), fun _ _ _ h => h, (fun j hj => (if_pos hj).symm)⟩, cfz_z⟩ : IsP (arow K (ns i) (fs i)) K (ns i) (cfz (ns i) (fs i))) (M := (2 + i * T + K + 1 + D * 1000)) (D := D) (by omega) (by omega) (by omega) (by omega) (by omega)) rfl rfl rfl ?_
    refine mV hTT _ rfl ?_
    refine mNil ?_
    refine bN ?_
    refine tN ?_
    refine cReg ?_
    refine mV hTT (.d (.one (.v (.int .i64 (IntKind.i64.wrap (((i : Nat) : Int) + 1)))))) rfl ?_
    refine mV hTT _ rfl ?_
    refine mNil ?_
    exact ⟨(i + 1), by omega, by omega, wk (sl := [(8, .d (.one (.row 1 n (fun p _ => arow K (ns p) (fs p))))), (9, .d (.one (.v (.int .i64 (n : Int))))), (10, .d (.one (.v (.int .i64 (((i + 1) : Nat) : Int))))), (3, .d (.one (.row 2 (dg (prodc ns fs (i + 1)) ((i + 1) * N + 1)) (zel (2 + (i + 1) * T) (prodc ns fs (i + 1))))))]) (hp := []) rfl ⟨hs rfl, hs rfl, hs' rfl (le_int (inc64 (by omega))), hs' rfl (le_prow (by omega) (dg_eq (conv_z0 (dg_z (prodc_z fun p hp => hN p (by omega))) cfz_z) (prodc_z (i := i + 1) fun p hp => hN p (by omega))) (fun _ _ => rfl)), trivial⟩ trivial rfl⟩
  · skip
    refine cExit ?_
    refine tE ?_
    refine tE ?_
    refine bE ?_
    refine tN ?_
    refine cSeq ?_
    refine cReg ?_
    refine mV hTT _ rfl ?_
    refine mV hTT _ rfl ?_
    refine mNil ?_
    refine tN ?_
    refine cRet ?_
    have hie : n = i := by have h0 := of_decide_eq_false hc1; omega
    subst hie
    exact rQ rfl (le_prow hM rfl (fun _ _ => rfl))

set_option maxRecDepth 100000 in
set_option maxHeartbeats 4000000 in
theorem aPMove {a : Lf} {b e : List Lf} {K L1 L2 M n D T : Nat} {c : Nat → Int} {x y : Int} (ha : IsP a K n c) (hb : IsZ b L1 x) (hd : IsZ e L2 y) (hy : ¬ y = 0) (hn : n ≤ D) (hDD : D ≤ 500 := by decide) (hT : K + 2 * (L1 + L2) + 1000 * (D + 3) ≤ T := by decide) (hM : (D + 1) * T ≤ M := by decide) (hMM : M ≤ 100000000 := by decide) : ACall Try.prog 13 [.one a, .agg b, .agg e] (.tup [.one (prow M (dg (mvZ c x y (dg c n) (dg c n)) (dg c n + 1)) (mvZ c x y (dg c n) (dg c n))), .one (.v (.int .i64 0))]) := by
  obtain ⟨⟨fa, ha, ea⟩, za⟩ := ha
  obtain ⟨s1, xs1, hb, ex⟩ := hb
  obtain ⟨s2, xs2, hd, ey⟩ := hd
  refine ACall.le (dl (DV.l ha) (dl (DV.z hb) (dl (DV.z hd) dl0))) AV.le.rfl ?_
  obtain ⟨R, hR0, hR1, hRM⟩ : ∃ R : Nat → Nat, 2 ≤ R 0 ∧ (∀ i, R i + T ≤ R (i + 1)) ∧ ∀ i, i ≤ D → R i ≤ M := ⟨fun i => (i + 1) * T, by show 2 ≤ (0 + 1) * T; omega, fun i => by show (i + 1) * T + T ≤ (i + 1 + 1) * T; rw [Nat.succ_mul (i + 1)]; exact Nat.le_refl _, fun i hi => Nat.le_trans (Nat.mul_le_mul_right _ (by omega)) hM⟩
  have hT1 := hRM 0 (Nat.zero_le _)
  have hTM : T ≤ M := Nat.le_trans (Nat.le_mul_of_pos_left T (by omega)) hM
  refine acallN hTT 45 [.tmp 6, .tmp 7] Try.func13 rfl rfl rfl rfl rfl ?_
  refine cSeq ?_
  refine cReg ?_
  refine mN hTT (.box 26 ([.v (.bool s1), lr L1 xs1])) rfl rfl rfl ?_
  refine mN hTT (.box 26 ([.v (.bool s2), lr L2 xs2])) rfl rfl rfl ?_
  refine mV hTT _ rfl ?_
  refine mV hTT _ rfl ?_
  refine mNil ?_
  refine tN ?_
  refine cSeq ?_
  refine cSeq ?_
  refine cReg ?_
  refine mV hTT (.d (.agg ([.v (.bool s2), lr L2 xs2]))) rfl ?_
  refine mC0 (aNorm ⟨s2, xs2, fun _ _ _ h => h, ey⟩ (by omega)) rfl rfl rfl ?_
  refine mC0 (aZero (isn L2 y)) rfl rfl rfl ?_
  refine mNil ?_
  refine tN ?_
  refine cView 14 (.d (.one (.v (.bool false)))) rfl (le_bool (decide_eq_false hy)) ?_
  refine cF rfl ?_
  refine cSkip ?_
  refine tN ?_
  refine cSeq ?_
  refine cReg ?_
  refine mV hTT _ rfl ?_
  refine mC0 (aPNorm (⟨⟨fa, fun _ _ _ h => h, ea⟩, za⟩ : IsP (arow K n fa) K n c) (by omega) (by omega)) rfl rfl rfl ?_
  refine mV hTT _ rfl ?_
  refine mNil ?_
  refine tN ?_
  refine cSeq ?_
  refine cReg ?_
  refine mV hTT _ rfl ?_
  refine mNil ?_
  refine tN ?_
  refine cSeq ?_
  refine cDrawK hTT 8 (by kernel_rfl) (by kernel_rfl) ?_
  refine .cons (OpS.V (.d (.agg ([.v (.bool s1), lr L1 xs1]))) rfl) ?_
  refine .cons (OpS.C0 (aNorm ⟨s1, xs1, fun _ _ _ h => h, ex⟩ (by omega)) rfl rfl rfl) ?_
  refine .cons (OpS.V (.d (.agg ([.v (.bool s2), lr L2 xs2]))) rfl) ?_
  refine .cons (OpS.C0 (aNorm ⟨s2, xs2, fun _ _ _ h => h, ey⟩ (by omega)) rfl rfl rfl) ?_
  refine .cons (OpS.B _ rfl) ?_
  refine .cons (OpS.C0 (aOf (n := 1) (by decide) (by decide)) rfl rfl rfl) ?_
  refine .cons (OpS.N (.box 26 ([.v (.bool false), .v (.slice none 0 0)])) rfl 10 rfl rfl) ?_
  refine .cons (OpS.V _ rfl) ?_
  refine .nil ?_
  refine mS hTT 10 (.box 26 (zn 2 1)) rfl ?_
  refine mNil ?_
  refine tN ?_
  refine cSeq ?_
  refine cSeq ?_
  have hla := dg_le c n
  refine cReg ?_
  refine mV hTT _ rfl ?_
  refine mV hTT (.d (.one (.v (.int .i64 ((dg c n : Nat) : Int))))) rfl ?_
  refine mV hTT (.d (.one (.v (.int .i64 ((dg c n : Int) - 1))))) (evi (wr64 (by omega) (by omega))) ?_
  refine mV hTT _ rfl ?_
  refine mNil ?_
  refine tN ?_
  refine cBlock ?_
  refine cLoop (ι := Nat) (fun (s : Nat) => ⟨45, [(0, .d (.one (.row 2 (dg c n) (zel K c)))), (5, .ptr 5 0), (8, .d (.one (.row 2 (dg (mvZ c x y (dg c n) s) (s + 1)) (zel (R s) (mvZ c x y (dg c n) s))))), (9, .d (.one (.row 2 2 (fun i' j' => ((zn L1 x ++ zn L2 y)[i' * 2 + j']?).getD (.v undef))))), (10, .ptr 10 0), (11, .d (.one (.v (.int .i64 ((dg c n : Int) - 1 - (s : Int))))))], [(5, .box 26 ([.v (.bool s2), lr L2 xs2])), (10, .box 26 (zn (R s) (y ^ s)))]⟩) (fun (s : Nat) => s ≤ dg c n) (fun (s : Nat) => dg c n - s) 0 (Nat.zero_le _) (wk (sl := [(0, .d (.one (.row 2 (dg c n) (zel K c)))), (5, .ptr 5 0), (8, .d (.one (.row 2 (dg (mvZ c x y (dg c n) 0) (0 + 1)) (zel (R 0) (mvZ c x y (dg c n) 0))))), (9, .d (.one (.row 2 2 (fun i' j' => ((zn L1 x ++ zn L2 y)[i' * 2 + j']?).getD (.v undef))))), (10, .ptr 10 0), (11, .d (.one (.v (.int .i64 ((dg c n : Int) - 1 - ((0 : Nat) : Int))))))]) (hp := [(5, .box 26 ([.v (.bool s2), lr L2 xs2])), (10, .box 26 (zn (R 0) (y ^ 0)))]) rfl ⟨hs rfl, hs rfl, hs' rfl (nil_prow' (dg_zero (fun _ => rfl) _)), hs rfl, hs rfl, hs' rfl (le_int (by omega)), trivial⟩ ⟨ho rfl, ho' rfl (leo_zn (by omega) (Int.pow_zero y).symm), trivial⟩ rfl) ?_
  rintro s hI
  have hi : s ≤ dg c n := hI
  show AW Try.prog _ _ ⟨45, [(0, .d (.one (.row 2 (dg c n) (zel K c)))), (5, .ptr 5 0), (8, .d (.one (.row 2 (dg (mvZ c x y (dg c n) s) (s + 1)) (zel (R s) (mvZ c x y (dg c n) s))))), (9, .d (.one (.row 2 2 (fun i' j' => ((zn L1 x ++ zn L2 y)[i' * 2 + j']?).getD (.v undef))))), (10, .ptr 10 0), (11, .d (.one (.v (.int .i64 ((dg c n : Int) - 1 - (s : Int))))))], [(5, .box 26 ([.v (.bool s2), lr L2 xs2])), (10, .box 26 (zn (R s) (y ^ s)))]⟩
  refine cSeq ?_
  refine cSeq ?_
  refine cReg ?_
  refine mV hTT _ rfl ?_
  refine mV hTT (.d (.one (.v (.bool (decide (((dg c n : Int) - 1 - (s : Int)) ≥ 0)))))) rfl ?_
  refine mNil ?_
  refine tN ?_
  refine cCond rfl (fun hc1 => ?_) (fun hc1 => ?_)
  · skip
    refine cSkip ?_
    refine tN ?_
    refine cSeq ?_
    refine cBlock ?_
    refine cSeq ?_
    have hsd : s < dg c n := by have h0 := of_decide_eq_true hc1; omega
    have hR := hR1 s
    have hRm := hRM (s + 1) (by omega)
    have hd1 := dg_le (mvZ c x y (dg c n) s) (s + 1)
    have hd2 := dg_le (conv (mvZ c x y (dg c n) s) (lin x y)) (dg (mvZ c x y (dg c n) s) (s + 1) + 2)
    refine cView 11 (.d (.one (.v (.int .i64 ((dg c n - 1 - s : Nat) : Int))))) rfl (le_int (by omega)) ?_
    refine cDrawK hTT 12 (by kernel_rfl) (by kernel_rfl) ?_
    refine .cons (OpS.V _ rfl) ?_
    refine .cons (OpS.V _ rfl) ?_
    refine .cons (OpS.C0 (aPMul (isp (K := (R s)) (c := (mvZ c x y (dg c n) s)) (dg_z fun j hj => mvZ_z s j (by omega))) (show IsP _ (max L1 L2) 2 (lin x y) from isp2 (M := L1) (N := L2) (z := x) (y := y) (by omega) (by omega)) (M := (R s + (max L1 L2) + 1 + (s + 1) * 1000)) (D := s + 1) (by omega) (by omega) (by omega) (by omega) (by omega)) rfl rfl rfl) ?_
    refine .cons (OpS.V _ rfl) ?_
    refine .cons (OpS.V _ rfl) ?_
    refine .cons (OpS.V (.d (.one (.at 2 ((zel K c) (dg c n - 1 - s))))) (ixR (el := (zel K c)) (z := ((dg c n - 1 - s : Nat) : Int)) (n := (dg c n)) rfl rfl rfl rfl rfl rfl (by omega) (by omega))) ?_
    refine .cons (OpS.V (.d (.agg (zn K (c (dg c n - 1 - s))))) rfl) ?_
    refine .cons (OpS.V (.d (.agg (zn (R s) (y ^ s)))) rfl) ?_
    refine .cons (OpS.C0 (aMul (isz K (c (dg c n - 1 - s))) (isz (R s) (y ^ s)) (M := (K + (R s))) (by omega) (by omega) (by omega)) rfl rfl rfl) ?_
    refine .cons (OpS.B _ rfl) ?_
    refine .cons (OpS.C0 (aPAdd (isp (K := (R s + (max L1 L2) + 1 + (s + 1) * 1000)) (c := (conv (mvZ c x y (dg c n) s) (lin x y))) (dg_z (conv_z0 (dg_z fun j hj => mvZ_z s j (by omega)) lin_z))) (show IsP _ (K + R s) 1 (onez (c (dg c n - 1 - s) * y ^ s)) from isp1 (z := (c (dg c n - 1 - s) * y ^ s)) (Nat.le_refl _)) (M := (max (R s + (max L1 L2) + 1 + (s + 1) * 1000) (K + R s) + 1)) (by omega) (by omega) (by omega)) rfl rfl rfl) ?_
    refine .cons (OpS.V _ rfl) ?_
    refine .nil ?_
    refine mNil ?_
    refine tN ?_
    refine cReg ?_
    refine mV hTT (.d (.agg (zn (R s) (y ^ s)))) rfl ?_
    refine mV hTT (.d (.agg ([.v (.bool s2), lr L2 xs2]))) rfl ?_
    refine mC0 (aMul (isz (R s) (y ^ s)) ⟨s2, xs2, fun _ _ _ h => h, ey⟩ (M := ((R s) + L2)) (by omega) (by omega) (by omega)) rfl rfl rfl ?_
    refine mS hTT 10 (.box 26 (zn ((R s) + L2) ((y ^ s) * y))) rfl ?_
    refine mNil ?_
    refine bN ?_
    refine tN ?_
    refine cReg ?_
    refine mV hTT _ rfl ?_
    refine mV hTT (.d (.one (.v (.int .i64 (IntKind.i64.wrap (((dg c n - 1 - s : Nat) : Int) - 1)))))) rfl ?_
    refine mV hTT _ rfl ?_
    refine mNil ?_
    exact ⟨(s + 1), by omega, by omega, wk (sl := [(0, .d (.one (.row 2 (dg c n) (zel K c)))), (5, .ptr 5 0), (8, .d (.one (.row 2 (dg (mvZ c x y (dg c n) (s + 1)) ((s + 1) + 1)) (zel (R (s + 1)) (mvZ c x y (dg c n) (s + 1)))))), (9, .d (.one (.row 2 2 (fun i' j' => ((zn L1 x ++ zn L2 y)[i' * 2 + j']?).getD (.v undef))))), (10, .ptr 10 0), (11, .d (.one (.v (.int .i64 ((dg c n : Int) - 1 - ((s + 1) : Int))))))]) (hp := [(5, .box 26 ([.v (.bool s2), lr L2 xs2])), (10, .box 26 (zn (R (s + 1)) (y ^ (s + 1))))]) rfl ⟨hs rfl, hs rfl, hs' rfl (le_prow (by omega) (dg_eq (fadd_z (dg_z (conv_z0 (dg_z fun j hj => mvZ_z s j (by omega)) lin_z)) onez_z) (fun j hj => mvZ_z (s + 1) j (by omega))) (fun _ _ => rfl)), hs rfl, hs rfl, hs' rfl (le_int ((wr64 (by omega) (by omega)).trans (by omega))), trivial⟩ ⟨ho rfl, ho' rfl (leo_zn (by omega) (Int.pow_succ y s).symm), trivial⟩ rfl⟩
  · skip
    refine cExit ?_
    refine tE ?_
    refine tE ?_
    refine bE ?_
    refine tN ?_
    refine cSeq ?_
    have hie : dg c n = s := by have h0 := of_decide_eq_false hc1; omega
    subst hie
    refine cReg ?_
    refine mV hTT _ rfl ?_
    refine mV hTT _ rfl ?_
    refine mV hTT _ rfl ?_
    refine mNil ?_
    refine tN ?_
    refine cRet ?_
    exact rQ rfl (le_tup (dl (dle (le_prow (hRM _ (by omega)) rfl (fun _ _ => rfl))) (dl DV.same dl0)))

set_option maxRecDepth 100000 in
set_option maxHeartbeats 4000000 in
theorem aPMove0 {a : Lf} {b e : List Lf} {K L1 L2 n : Nat} {c : Nat → Int} {x y : Int} (ha : IsP a K n c) (hb : IsZ b L1 x) (hd : IsZ e L2 y) (hy : y = 0) (hL : L2 ≤ 100000000 := by decide) : ACall Try.prog 13 [.one a, .agg b, .agg e] (.tup [.one (.v (.slice none 0 0)), .one (.v (.int .i64 2))]) := by
  obtain ⟨⟨fa, ha, ea⟩, za⟩ := ha
  obtain ⟨s1, xs1, hb, ex⟩ := hb
  obtain ⟨s2, xs2, hd, ey⟩ := hd
  refine ACall.le (dl (DV.l ha) (dl (DV.z hb) (dl (DV.z hd) dl0))) AV.le.rfl ?_
  refine acallN hTT 45 [.tmp 6, .tmp 7] Try.func13 rfl rfl rfl rfl rfl ?_
  refine cSeq ?_
  refine cReg ?_
  refine mN hTT (.box 26 ([.v (.bool s1), lr L1 xs1])) rfl rfl rfl ?_
  refine mN hTT (.box 26 ([.v (.bool s2), lr L2 xs2])) rfl rfl rfl ?_
  refine mV hTT _ rfl ?_
  refine mV hTT _ rfl ?_
  refine mNil ?_
  refine tN ?_
  refine cSeq ?_
  refine cSeq ?_
  refine cReg ?_
  refine mV hTT (.d (.agg ([.v (.bool s2), lr L2 xs2]))) rfl ?_
  refine mC0 (aNorm ⟨s2, xs2, fun _ _ _ h => h, ey⟩ (by omega)) rfl rfl rfl ?_
  refine mC0 (aZero (isn L2 y)) rfl rfl rfl ?_
  refine mNil ?_
  refine tN ?_
  refine cView 14 (.d (.one (.v (.bool true)))) rfl (le_bool (decide_eq_true hy)) ?_
  refine cT rfl ?_
  refine cSeq ?_
  refine cReg ?_
  refine mV hTT _ rfl ?_
  refine mV hTT _ rfl ?_
  refine mNil ?_
  refine tN ?_
  refine cRet ?_
  refine tR ?_
  exact rQ rfl (AV.le.rfl)

set_option maxRecDepth 100000 in
set_option maxHeartbeats 4000000 in
theorem aIs {a b : Lf} {K L n m : Nat} {q : Nat → Rat} {c : Nat → Int} (ha : ∀ B w v, LfR B w a v → LfR B w (qrow K n q) v) (hb : ∀ B w v, LfR B w b v → LfR B w (prow L m c) v) (hnm : n = m) (hqc : ∀ i, i < m → q i = rc c i) (hn : m ≤ 1000000 := by decide) (hK : K ≤ 10000000 := by decide) (hL : L ≤ 1000000000 := by decide) : ACall Try.prog 23 [.one a, .one b] (.d (.one (.v (.bool true)))) := by
  subst hnm
  refine ACall.le (dl (DV.l fun B w v h => row_le (qel_le (Nat.le_refl K) hqc) _ _ _ (ha B w v h)) (dl (DV.l hb) dl0)) AV.le.rfl ?_
  refine acallN hTT 8 [.tmp 4] Try.func23 rfl rfl rfl rfl rfl ?_
  refine cSeq ?_
  refine cReg ?_
  refine mV hTT _ rfl ?_
  refine mNil ?_
  refine tN ?_
  refine cSeq ?_
  refine cReg ?_
  refine mV hTT _ rfl ?_
  refine mV hTT _ rfl ?_
  refine mC0 (aQSame (K := K) (L := L) (n := n) (c := c) (fun _ _ _ h => h) (fun _ _ _ h => h) (by omega) (by omega) (by omega)) rfl rfl rfl ?_
  refine mV hTT _ rfl ?_
  refine mNil ?_
  refine tN ?_
  refine cRet ?_
  exact rQ rfl (AV.le.rfl)

end Go.Proofs.Ytnnpjkalkfoolaa
