/-
  THE LAWS of chapter 5, by the machine (3): Same, Lead, Deg; PolyOrders.
-/
import Derived.Test.YtnnpjkalkfoolaaPc
import Derived.Test.YtnnpjkalkfoolaaPg
set_option linter.unusedVariables false
set_option linter.unusedSimpArgs false
namespace Go.Proofs.Ytnnpjkalkfoolaa
open Go.RowKit

set_option maxRecDepth 100000 in
set_option maxHeartbeats 4000000 in
theorem aPSame {a b : Lf} {K L n m : Nat} {c d : Nat → Int} (ha : IsP a K n c) (hb : IsP b L m d) (h : ∀ i, c i = d i) (hn : n ≤ 1000000 := by decide) (hm : m ≤ 1000000 := by decide) (hK : K ≤ 1000000000 := by decide) (hL : L ≤ 1000000000 := by decide) : ACall Try.prog 40 [.one a, .one b] (.d (.one (.v (.bool true)))) := by
  obtain rfl : c = d := funext h
  obtain ⟨⟨fa, ha, ea⟩, za⟩ := ha
  obtain ⟨⟨fb, hb, eb⟩, zb⟩ := hb
  refine ACall.le (dl (DV.l ha) (dl (DV.l hb) dl0)) AV.le.rfl ?_
  have hnm : dg c m = dg c n := dg_eq zb za
  have hla := dg_le c n
  refine acallN hTT 31 [.tmp 4] Try.func40 rfl rfl rfl rfl rfl ?_
  refine cSeq ?_
  refine cReg ?_
  refine mV hTT _ rfl ?_
  refine mNil ?_
  refine tN ?_
  refine cSeq ?_
  refine cReg ?_
  refine mV hTT _ rfl ?_
  refine mC0 (aPNorm (⟨⟨fa, fun _ _ _ h => h, ea⟩, za⟩ : IsP (arow K n fa) K n c) (by omega) (by omega)) rfl rfl rfl ?_
  refine mV hTT _ rfl ?_
  refine mC0 (aPNorm (⟨⟨fb, fun _ _ _ h => h, eb⟩, zb⟩ : IsP (arow L m fb) L m c) (by omega) (by omega)) rfl rfl rfl ?_
  refine mV hTT _ rfl ?_
  refine mV hTT _ rfl ?_
  refine mNil ?_
  refine tN ?_
  refine cSeq ?_
  refine cSeq ?_
  refine cReg ?_
  refine mV hTT _ rfl ?_
  refine mV hTT (.d (.one (.v (.int .i64 ((dg c n : Nat) : Int))))) rfl ?_
  refine mV hTT _ rfl ?_
  refine mV hTT (.d (.one (.v (.int .i64 ((dg c m : Nat) : Int))))) rfl ?_
  refine mV hTT (.d (.one (.v (.bool false)))) (evb (by rw [hnm]; exact bne_self_eq_false _)) ?_
  refine mNil ?_
  refine tN ?_
  refine cF rfl ?_
  refine cSkip ?_
  refine tN ?_
  refine cSeq ?_
  refine cSeq ?_
  refine cReg ?_
  refine mV hTT _ rfl ?_
  refine mV hTT (.d (.one (.v (.int .i64 ((dg c n : Nat) : Int))))) rfl ?_
  refine mV hTT _ rfl ?_
  refine mNil ?_
  refine tN ?_
  refine cBlock ?_
  refine cLoop (ι := Nat) (fun (i : Nat) => ⟨31, [(1, .d (.one (.row 2 (dg c m) (zel L c)))), (16, .d (.one (.row 2 (dg c n) (zel K c)))), (17, .d (.one (.v (.int .i64 ((dg c n : Nat) : Int))))), (18, .d (.one (.v (.int .i64 ((i : Nat) : Int)))))], []⟩) (fun (i : Nat) => i ≤ dg c n) (fun (i : Nat) => dg c n - i) 0 (Nat.zero_le _) (wk (sl := [(1, .d (.one (.row 2 (dg c m) (zel L c)))), (16, .d (.one (.row 2 (dg c n) (zel K c)))), (17, .d (.one (.v (.int .i64 ((dg c n : Nat) : Int))))), (18, .d (.one (.v (.int .i64 ((0 : Nat) : Int)))))]) (hp := []) rfl ⟨hs rfl, hs rfl, hs rfl, hs rfl, trivial⟩ trivial rfl) ?_
  rintro i hI
  have hi : i ≤ dg c n := hI
  show AW Try.prog _ _ ⟨31, [(1, .d (.one (.row 2 (dg c m) (zel L c)))), (16, .d (.one (.row 2 (dg c n) (zel K c)))), (17, .d (.one (.v (.int .i64 ((dg c n : Nat) : Int))))), (18, .d (.one (.v (.int .i64 ((i : Nat) : Int)))))], []⟩
  refine cSeq ?_
  refine cReg ?_
  refine mV hTT (.d (.one (.v (.bool (decide (((i : Nat) : Int) < ((dg c n : Nat) : Int))))))) rfl ?_
  refine mNil ?_
  refine tN ?_
  refine cSeq ?_
  refine cCond rfl (fun hc1 => ?_) (fun hc1 => ?_)
  · skip
    refine cSkip ?_
    refine tN ?_
    refine cSeq ?_
    refine cBlock ?_
    refine cSeq ?_
    have hin : i < dg c n := by have h0 := of_decide_eq_true hc1; omega
    refine cReg ?_
    refine mV hTT _ rfl ?_
    refine mV hTT (.d (.one (.at 2 ((zel K c) i)))) (ixR (el := (zel K c)) (z := ((i : Nat) : Int)) (n := (dg c n)) rfl rfl rfl rfl rfl rfl (by omega) (by omega)) ?_
    refine mV hTT (.d (.agg (zn K (c i)))) rfl ?_
    refine mN hTT (.box 26 ([.v (.bool false), .v (.slice none 0 0)])) rfl rfl rfl ?_
    refine mV hTT _ rfl ?_
    refine mS hTT 6 (.box 26 (zn K (c i))) rfl ?_
    refine mNil ?_
    refine tN ?_
    refine cSeq ?_
    refine cDrawK hTT 7 (by kernel_rfl) (by kernel_rfl) ?_
    refine .cons (OpS.V (.d (.agg (zn K (c i)))) rfl) ?_
    refine .cons (OpS.V _ rfl) ?_
    refine .cons (OpS.V _ rfl) ?_
    refine .cons (OpS.V (.d (.one (.at 2 ((zel L c) i)))) (ixR (el := (zel L c)) (z := ((i : Nat) : Int)) (n := (dg c m)) rfl rfl rfl rfl rfl rfl (by omega) (by omega))) ?_
    refine .cons (OpS.V (.d (.agg (zn L (c i)))) rfl) ?_
    refine .cons (OpS.C0 (aCmp (isz K (c i)) (isz L (c i)) (by omega) (by omega)) rfl rfl rfl) ?_
    refine .cons (OpS.V (.d (.one (.v (.bool false)))) (evb (by rw [show cmpZ (c i) (c i) = 0 from by simp [cmpZ]]; rfl))) ?_
    refine .nil ?_
    refine mNil ?_
    refine tN ?_
    refine cF rfl ?_
    refine cSkip ?_
    refine bN ?_
    refine tN ?_
    refine cReg ?_
    refine mV hTT (.d (.one (.v (.int .i64 (IntKind.i64.wrap (((i : Nat) : Int) + 1)))))) rfl ?_
    refine mV hTT _ rfl ?_
    refine mNil ?_
    exact ⟨(i + 1), by omega, by omega, wk (sl := [(1, .d (.one (.row 2 (dg c m) (zel L c)))), (16, .d (.one (.row 2 (dg c n) (zel K c)))), (17, .d (.one (.v (.int .i64 ((dg c n : Nat) : Int))))), (18, .d (.one (.v (.int .i64 (((i + 1) : Nat) : Int)))))]) (hp := []) rfl ⟨hs rfl, hs rfl, hs rfl, hs' rfl (le_int (inc64 (by omega))), trivial⟩ trivial rfl⟩
  · skip
    refine cExit ?_
    refine tE ?_
    refine tE ?_
    refine bE ?_
    refine tN ?_
    refine cSeq ?_
    refine cReg ?_
    refine mV hTT _ rfl ?_
    refine mNil ?_
    refine tN ?_
    refine cRet ?_
    exact rQ rfl (AV.le.rfl)

set_option maxRecDepth 100000 in
set_option maxHeartbeats 4000000 in
theorem aPLead {a : Lf} {K n : Nat} {c : Nat → Int} (ha : IsP a K n c) (hn : n ≤ 1000000 := by decide) (hK : K ≤ 1000000000 := by decide) : ACall Try.prog 44 [.one a] (.d (.agg (zn K (c (dg c n - 1))))) := by
  obtain ⟨⟨fa, ha, ea⟩, za⟩ := ha
  refine ACall.le (dl (DV.l ha) dl0) AV.le.rfl ?_
  have hla := dg_le c n
  refine acallN hTT 15 [.cell 2 26] Try.func44 rfl rfl rfl rfl rfl ?_
  refine cSeq ?_
  refine cReg ?_
  refine mN hTT (.box 26 ([.v (.bool false), .v (.slice none 0 0)])) rfl rfl rfl ?_
  refine mNil ?_
  refine tN ?_
  refine cSeq ?_
  refine cSeq ?_
  refine cReg ?_
  refine mV hTT _ rfl ?_
  refine mC0 (aPNorm (⟨⟨fa, fun _ _ _ h => h, ea⟩, za⟩ : IsP (arow K n fa) K n c) (by omega) (by omega)) rfl rfl rfl ?_
  refine mV hTT _ rfl ?_
  refine mNil ?_
  refine tN ?_
  refine cSeq ?_
  refine cReg ?_
  refine mV hTT _ rfl ?_
  refine mV hTT (.d (.one (.v (.int .i64 ((dg c n : Nat) : Int))))) rfl ?_
  refine mV hTT (.d (.one (.v (.bool (((dg c n : Nat) : Int) == 0))))) rfl ?_
  refine mNil ?_
  refine tN ?_
  refine cCond rfl (fun hc1 => ?_) (fun hc1 => ?_)
  · skip
    refine cSeq ?_
    refine cReg ?_
    refine mV hTT (.d (.agg ([.v (.bool false), .v (.slice none 0 0)]))) rfl ?_
    refine mS hTT 2 (.box 26 ([.v (.bool false), .v (.slice none 0 0)])) rfl ?_
    refine mNil ?_
    refine tN ?_
    refine cRet ?_
    refine tR ?_
    exact rQ rfl (nil_zn (dg_all za (by have h0 := eq_of_beq hc1; omega) _))
  · skip
    refine cSkip ?_
    refine tN ?_
    refine cSeq ?_
    have hl0 : dg c n ≠ 0 := fun e => by have h0 := hc1; rw [e] at h0; exact absurd h0 (by decide)
    refine cReg ?_
    refine mV hTT _ rfl ?_
    refine mV hTT _ rfl ?_
    refine mV hTT (.d (.one (.v (.int .i64 ((dg c n : Nat) : Int))))) rfl ?_
    refine mV hTT (.d (.one (.v (.int .i64 ((dg c n - 1 : Nat) : Int))))) (evi ((wr64 (by omega) (by omega)).trans (by omega))) ?_
    refine mV hTT (.d (.one (.at 2 ((zel K c) (dg c n - 1))))) (ixR (el := (zel K c)) (z := ((dg c n - 1 : Nat) : Int)) (n := (dg c n)) rfl rfl rfl rfl rfl rfl (by omega) (by omega)) ?_
    refine mV hTT (.d (.agg (zn K (c (dg c n - 1))))) rfl ?_
    refine mS hTT 2 (.box 26 (zn K (c (dg c n - 1)))) rfl ?_
    refine mNil ?_
    refine tN ?_
    refine cRet ?_
    exact rQ rfl (AV.le.rfl)

set_option maxRecDepth 100000 in
set_option maxHeartbeats 4000000 in
theorem aDeg {K n : Nat} {c : Nat → Int} (hn : n ≤ 1000000) : ACall Try.prog 42 [.one (prow K n c)] (.d (.one (.v (.int .i64 ((n : Int) - 1))))) := by
  refine acallN hTT 6 [.tmp 2] Try.func42 rfl rfl rfl rfl rfl ?_
  refine cSeq ?_
  refine cReg ?_
  refine mV hTT _ rfl ?_
  refine mNil ?_
  refine tN ?_
  refine cSeq ?_
  refine cReg ?_
  refine mV hTT _ rfl ?_
  refine mV hTT (.d (.one (.v (.int .i64 (n : Int))))) rfl ?_
  refine mV hTT (.d (.one (.v (.int .i64 ((n : Int) - 1))))) (evi (wr64 (by omega) (by omega))) ?_
  refine mV hTT _ rfl ?_
  refine mNil ?_
  refine tN ?_
  refine cRet ?_
  exact rQ rfl (AV.le.rfl)

set_option maxRecDepth 100000 in
set_option maxHeartbeats 4000000 in
theorem aPolyOrders {K L M na nb nc : Nat} {fa fb fc : Nat → Bool × List Nat} (hK : K ≤ 9223372036854775807) (hL : L ≤ 9223372036854775807) (hM : M ≤ 9223372036854775807) : ACall Try.prog 6 [.one (arow K na fa), .one (arow L nb fb), .one (arow M nc fc)] (.d (.one (.v (.bool true)))) := by
  refine acallN hTT 110 [.tmp 6] Try.func6 rfl rfl rfl rfl rfl ?_
  refine cSeq ?_
  refine cReg ?_
  refine mV hTT _ rfl ?_
  refine mNil ?_
  refine tN ?_
  refine cSeq ?_
  refine cReg ?_
  refine mV hTT _ rfl ?_
  refine mC0 (aCut (K := K) (n := na) (m := 6) (k := 2) (f := fa) (M := 64) (by decide) (by decide) (by decide) (by omega)) rfl rfl rfl ?_
  refine mV hTT _ rfl ?_
  refine mV hTT _ rfl ?_
  refine mV hTT _ rfl ?_
  refine mV hTT _ rfl ?_
  refine mNil ?_
  refine tN ?_
  refine cSeq ?_
  refine cReg ?_
  refine mV hTT _ rfl ?_
  refine mC0 (aCut (K := L) (n := nb) (m := 6) (k := 2) (f := fb) (M := 64) (by decide) (by decide) (by decide) (by omega)) rfl rfl rfl ?_
  refine mV hTT _ rfl ?_
  refine mV hTT _ rfl ?_
  refine mV hTT _ rfl ?_
  refine mV hTT _ rfl ?_
  refine mNil ?_
  refine tN ?_
  refine cSeq ?_
  refine cReg ?_
  refine mV hTT _ rfl ?_
  refine mC0 (aCut (K := M) (n := nc) (m := 5) (k := 2) (f := fc) (M := 64) (by decide) (by decide) (by decide) (by omega)) rfl rfl rfl ?_
  refine mV hTT _ rfl ?_
  refine mV hTT _ rfl ?_
  refine mV hTT _ rfl ?_
  refine mV hTT _ rfl ?_
  refine mNil ?_
  refine tN ?_
  refine cSeq ?_
  refine cSeq ?_
  have hN3 : ∀ p, p < 3 → (f3 (min na 6) (min nb 6) (min nc 5)) p ≤ 6 := by intro p hp; unfold f3; split; omega; split <;> omega
  have d1 := dg_le (sumc (f3 (min na 6) (min nb 6) (min nc 5)) (f3 (cutf 2 fa) (cutf 2 fb) (cutf 2 fc)) 3) 6
  have d2 := dg_le (prodc (f3 (min na 6) (min nb 6) (min nc 5)) (f3 (cutf 2 fa) (cutf 2 fb) (cutf 2 fc)) 3) (3 * 6 + 1)
  have d3 := dg_le (fadd (cfz (min nb 6) (cutf 2 fb)) (cfz (min na 6) (cutf 2 fa))) (max (min nb 6) (min na 6))
  have d4 := dg_le (fadd (cfz (min nc 5) (cutf 2 fc)) (fadd (cfz (min nb 6) (cutf 2 fb)) (cfz (min na 6) (cutf 2 fa)))) (max (min nc 5) (dg (fadd (cfz (min nb 6) (cutf 2 fb)) (cfz (min na 6) (cutf 2 fa))) (max (min nb 6) (min na 6))))
  have d5 := dg_le (conv (cfz (min nc 5) (cutf 2 fc)) (cfz (min nb 6) (cutf 2 fb))) ((min nc 5) + (min nb 6))
  have d6 := dg_le (conv (conv (cfz (min nc 5) (cutf 2 fc)) (cfz (min nb 6) (cutf 2 fb))) (cfz (min na 6) (cutf 2 fa))) (dg (conv (cfz (min nc 5) (cutf 2 fc)) (cfz (min nb 6) (cutf 2 fb))) ((min nc 5) + (min nb 6)) + (min na 6))
  have d7 := dg_le (fadd (cfz (min nb 6) (cutf 2 fb)) (cfz (min nc 5) (cutf 2 fc))) (max (min nb 6) (min nc 5))
  have d8 := dg_le (conv (cfz (min na 6) (cutf 2 fa)) (fadd (cfz (min nb 6) (cutf 2 fb)) (cfz (min nc 5) (cutf 2 fc)))) ((min na 6) + dg (fadd (cfz (min nb 6) (cutf 2 fb)) (cfz (min nc 5) (cutf 2 fc))) (max (min nb 6) (min nc 5)))
  have d9 := dg_le (conv (cfz (min na 6) (cutf 2 fa)) (cfz (min nb 6) (cutf 2 fb))) ((min na 6) + (min nb 6))
  have d10 := dg_le (conv (cfz (min na 6) (cutf 2 fa)) (cfz (min nc 5) (cutf 2 fc))) ((min na 6) + (min nc 5))
  have d11 := dg_le (fadd (conv (cfz (min na 6) (cutf 2 fa)) (cfz (min nb 6) (cutf 2 fb))) (conv (cfz (min na 6) (cutf 2 fa)) (cfz (min nc 5) (cutf 2 fc)))) (max (dg (conv (cfz (min na 6) (cutf 2 fa)) (cfz (min nb 6) (cutf 2 fb))) ((min na 6) + (min nb 6))) (dg (conv (cfz (min na 6) (cutf 2 fa)) (cfz (min nc 5) (cutf 2 fc))) ((min na 6) + (min nc 5))))
  have d12 := dg_le (cfz (min na 6) (cutf 2 fa)) (min na 6)
  have d13 := dg_le (cfz (min nb 6) (cutf 2 fb)) (min nb 6)
  refine cReg ?_
  refine mV hTT _ rfl ?_
  refine mV hTT _ rfl ?_
  refine mV hTT _ rfl ?_
  refine mB hTT (.d (.one (.row 1 3 (fun i' j' => (([.row 2 (min na 6) (ael 2 (cutf 2 fa)), .row 2 (min nb 6) (ael 2 (cutf 2 fb)), .row 2 (min nc 5) (ael 2 (cutf 2 fc))])[i' * 1 + j']?).getD (.v undef))))) rfl ?_
  refine mC0 (ACall.le (dl (DV.l (isps3 (K := 2) (n0 := (min na 6)) (n1 := (min nb 6)) (n2 := (min nc 5)) (g0 := cutf 2 fa) (g1 := cutf 2 fb) (g2 := cutf 2 fc))) dl0) AV.le.rfl (aPSum (K := 2) (n := 3) (N := 6) (M := 5) hN3 (by decide))) rfl rfl rfl ?_
  refine mV hTT _ rfl ?_
  refine mV hTT _ rfl ?_
  refine mV hTT _ rfl ?_
  refine mC0 (aPAdd (⟨⟨(cutf 2 fb), fun _ _ _ h => h, (fun i hi => (if_pos hi).symm)⟩, cfz_z⟩ : IsP (arow 2 (min nb 6) (cutf 2 fb)) 2 (min nb 6) (cfz (min nb 6) (cutf 2 fb))) (⟨⟨(cutf 2 fa), fun _ _ _ h => h, (fun i hi => (if_pos hi).symm)⟩, cfz_z⟩ : IsP (arow 2 (min na 6) (cutf 2 fa)) 2 (min na 6) (cfz (min na 6) (cutf 2 fa))) (M := 3) (by omega) (by omega) (by decide)) rfl rfl rfl ?_
  refine mC0 (aPAdd (⟨⟨(cutf 2 fc), fun _ _ _ h => h, (fun i hi => (if_pos hi).symm)⟩, cfz_z⟩ : IsP (arow 2 (min nc 5) (cutf 2 fc)) 2 (min nc 5) (cfz (min nc 5) (cutf 2 fc))) (isp (K := 3) (c := (fadd (cfz (min nb 6) (cutf 2 fb)) (cfz (min na 6) (cutf 2 fa)))) (dg_z (fadd_z cfz_z cfz_z))) (M := 4) (by omega) (by omega) (by decide)) rfl rfl rfl ?_
  refine mC0 (aPSame (isp (K := 5) (c := (sumc (f3 (min na 6) (min nb 6) (min nc 5)) (f3 (cutf 2 fa) (cutf 2 fb) (cutf 2 fc)) 3)) (dg_z (sumc_z hN3))) (isp (K := 4) (c := (fadd (cfz (min nc 5) (cutf 2 fc)) (fadd (cfz (min nb 6) (cutf 2 fb)) (cfz (min na 6) (cutf 2 fa))))) (dg_z (fadd_z cfz_z (dg_z (fadd_z cfz_z cfz_z))))) (fun j => by show ((0 + (cfz (min na 6) (cutf 2 fa)) j) + (cfz (min nb 6) (cutf 2 fb)) j) + (cfz (min nc 5) (cutf 2 fc)) j = (cfz (min nc 5) (cutf 2 fc)) j + ((cfz (min nb 6) (cutf 2 fb)) j + (cfz (min na 6) (cutf 2 fa)) j); omega) (by omega) (by omega) (by decide) (by decide)) rfl rfl rfl ?_
  refine mV hTT (.d (.one (.v (.bool false)))) rfl ?_
  refine mV hTT _ rfl ?_
  refine mV hTT _ rfl ?_
  refine mV hTT _ rfl ?_
  refine mV hTT _ rfl ?_
  refine mB hTT (.d (.one (.row 1 3 (fun i' j' => (([.row 2 (min na 6) (ael 2 (cutf 2 fa)), .row 2 (min nb 6) (ael 2 (cutf 2 fb)), .row 2 (min nc 5) (ael 2 (cutf 2 fc))])[i' * 1 + j']?).getD (.v undef))))) rfl ?_
  refine mC0 (ACall.le (dl (DV.l (isps3 (K := 2) (n0 := (min na 6)) (n1 := (min nb 6)) (n2 := (min nc 5)) (g0 := cutf 2 fa) (g1 := cutf 2 fb) (g2 := cutf 2 fc))) dl0) AV.le.rfl (aPProd (K := 2) (n := 3) (N := 6) (D := 19) (T := 19003) (M := 57011) hN3 (by decide) (by decide) (by decide) (by decide) (by decide) (by decide) (by decide))) rfl rfl rfl ?_
  refine mV hTT _ rfl ?_
  refine mV hTT _ rfl ?_
  refine mC0 (aPMul (⟨⟨(cutf 2 fc), fun _ _ _ h => h, (fun i hi => (if_pos hi).symm)⟩, cfz_z⟩ : IsP (arow 2 (min nc 5) (cutf 2 fc)) 2 (min nc 5) (cfz (min nc 5) (cutf 2 fc))) (⟨⟨(cutf 2 fb), fun _ _ _ h => h, (fun i hi => (if_pos hi).symm)⟩, cfz_z⟩ : IsP (arow 2 (min nb 6) (cutf 2 fb)) 2 (min nb 6) (cfz (min nb 6) (cutf 2 fb))) (M := 5005) (D := 5) (by omega) (by omega) (by decide) (by decide) (by decide)) rfl rfl rfl ?_
  refine mV hTT _ rfl ?_
  refine mC0 (aPMul (isp (K := 5005) (c := (conv (cfz (min nc 5) (cutf 2 fc)) (cfz (min nb 6) (cutf 2 fb)))) (dg_z (conv_z0 cfz_z cfz_z))) (⟨⟨(cutf 2 fa), fun _ _ _ h => h, (fun i hi => (if_pos hi).symm)⟩, cfz_z⟩ : IsP (arow 2 (min na 6) (cutf 2 fa)) 2 (min na 6) (cfz (min na 6) (cutf 2 fa))) (M := 16008) (D := 11) (by omega) (by omega) (by decide) (by decide) (by decide)) rfl rfl rfl ?_
  refine mC0 (aPSame (isp (K := 57011) (c := (prodc (f3 (min na 6) (min nb 6) (min nc 5)) (f3 (cutf 2 fa) (cutf 2 fb) (cutf 2 fc)) 3)) (dg_z (prodc_z hN3))) (isp (K := 16008) (c := (conv (conv (cfz (min nc 5) (cutf 2 fc)) (cfz (min nb 6) (cutf 2 fb))) (cfz (min na 6) (cutf 2 fa)))) (dg_z (conv_z0 (dg_z (conv_z0 cfz_z cfz_z)) cfz_z))) (fun j => by show conv (conv (conv (lst [1]) (cfz (min na 6) (cutf 2 fa))) (cfz (min nb 6) (cutf 2 fb))) (cfz (min nc 5) (cutf 2 fc)) j = _; rw [conv_fun (fun i => conv_fun (fun k => conv_one (cfz (min na 6) (cutf 2 fa)) k) (fun _ => rfl) i) (fun _ => rfl), conv_assoc, conv_comm, conv_fun (conv_comm (cfz (min nb 6) (cutf 2 fb)) (cfz (min nc 5) (cutf 2 fc))) (fun _ => rfl)]) (by omega) (by omega) (by decide) (by decide)) rfl rfl rfl ?_
  refine mV hTT (.d (.one (.v (.bool false)))) rfl ?_
  refine mV hTT _ rfl ?_
  refine mV hTT _ rfl ?_
  refine mV hTT _ rfl ?_
  refine mV hTT _ rfl ?_
  refine mV hTT _ rfl ?_
  refine mC0 (aPAdd (⟨⟨(cutf 2 fb), fun _ _ _ h => h, (fun i hi => (if_pos hi).symm)⟩, cfz_z⟩ : IsP (arow 2 (min nb 6) (cutf 2 fb)) 2 (min nb 6) (cfz (min nb 6) (cutf 2 fb))) (⟨⟨(cutf 2 fc), fun _ _ _ h => h, (fun i hi => (if_pos hi).symm)⟩, cfz_z⟩ : IsP (arow 2 (min nc 5) (cutf 2 fc)) 2 (min nc 5) (cfz (min nc 5) (cutf 2 fc))) (M := 3) (by omega) (by omega) (by decide)) rfl rfl rfl ?_
  refine mC0 (aPMul (⟨⟨(cutf 2 fa), fun _ _ _ h => h, (fun i hi => (if_pos hi).symm)⟩, cfz_z⟩ : IsP (arow 2 (min na 6) (cutf 2 fa)) 2 (min na 6) (cfz (min na 6) (cutf 2 fa))) (isp (K := 3) (c := (fadd (cfz (min nb 6) (cutf 2 fb)) (cfz (min nc 5) (cutf 2 fc)))) (dg_z (fadd_z cfz_z cfz_z))) (M := 6006) (D := 6) (by omega) (by omega) (by decide) (by decide) (by decide)) rfl rfl rfl ?_
  refine mV hTT _ rfl ?_
  refine mV hTT _ rfl ?_
  refine mC0 (aPMul (⟨⟨(cutf 2 fa), fun _ _ _ h => h, (fun i hi => (if_pos hi).symm)⟩, cfz_z⟩ : IsP (arow 2 (min na 6) (cutf 2 fa)) 2 (min na 6) (cfz (min na 6) (cutf 2 fa))) (⟨⟨(cutf 2 fb), fun _ _ _ h => h, (fun i hi => (if_pos hi).symm)⟩, cfz_z⟩ : IsP (arow 2 (min nb 6) (cutf 2 fb)) 2 (min nb 6) (cfz (min nb 6) (cutf 2 fb))) (M := 6005) (D := 6) (by omega) (by omega) (by decide) (by decide) (by decide)) rfl rfl rfl ?_
  refine mV hTT _ rfl ?_
  refine mV hTT _ rfl ?_
  refine mC0 (aPMul (⟨⟨(cutf 2 fa), fun _ _ _ h => h, (fun i hi => (if_pos hi).symm)⟩, cfz_z⟩ : IsP (arow 2 (min na 6) (cutf 2 fa)) 2 (min na 6) (cfz (min na 6) (cutf 2 fa))) (⟨⟨(cutf 2 fc), fun _ _ _ h => h, (fun i hi => (if_pos hi).symm)⟩, cfz_z⟩ : IsP (arow 2 (min nc 5) (cutf 2 fc)) 2 (min nc 5) (cfz (min nc 5) (cutf 2 fc))) (M := 6005) (D := 6) (by omega) (by omega) (by decide) (by decide) (by decide)) rfl rfl rfl ?_
  refine mC0 (aPAdd (isp (K := 6005) (c := (conv (cfz (min na 6) (cutf 2 fa)) (cfz (min nb 6) (cutf 2 fb)))) (dg_z (conv_z0 cfz_z cfz_z))) (isp (K := 6005) (c := (conv (cfz (min na 6) (cutf 2 fa)) (cfz (min nc 5) (cutf 2 fc)))) (dg_z (conv_z0 cfz_z cfz_z))) (M := 6006) (by omega) (by omega) (by decide)) rfl rfl rfl ?_
  refine mC0 (aPSame (isp (K := 6006) (c := (conv (cfz (min na 6) (cutf 2 fa)) (fadd (cfz (min nb 6) (cutf 2 fb)) (cfz (min nc 5) (cutf 2 fc))))) (dg_z (conv_z0 cfz_z (dg_z (fadd_z cfz_z cfz_z))))) (isp (K := 6006) (c := (fadd (conv (cfz (min na 6) (cutf 2 fa)) (cfz (min nb 6) (cutf 2 fb))) (conv (cfz (min na 6) (cutf 2 fa)) (cfz (min nc 5) (cutf 2 fc))))) (dg_z (fadd_z (dg_z (conv_z0 cfz_z cfz_z)) (dg_z (conv_z0 cfz_z cfz_z))))) (fun j => conv_add _ _ _ j) (by omega) (by omega) (by decide) (by decide)) rfl rfl rfl ?_
  refine mV hTT (.d (.one (.v (.bool false)))) rfl ?_
  refine mV hTT _ rfl ?_
  refine mNil ?_
  refine tN ?_
  refine cF rfl ?_
  refine cSkip ?_
  refine tN ?_
  refine cSeq ?_
  refine cReg ?_
  refine mV hTT _ rfl ?_
  refine mV hTT _ rfl ?_
  refine mC0 (aPMul (⟨⟨(cutf 2 fa), fun _ _ _ h => h, (fun i hi => (if_pos hi).symm)⟩, cfz_z⟩ : IsP (arow 2 (min na 6) (cutf 2 fa)) 2 (min na 6) (cfz (min na 6) (cutf 2 fa))) (⟨⟨(cutf 2 fb), fun _ _ _ h => h, (fun i hi => (if_pos hi).symm)⟩, cfz_z⟩ : IsP (arow 2 (min nb 6) (cutf 2 fb)) 2 (min nb 6) (cfz (min nb 6) (cutf 2 fb))) (M := 6005) (D := 6) (by omega) (by omega) (by decide) (by decide) (by decide)) rfl rfl rfl ?_
  refine mV hTT _ rfl ?_
  refine mNil ?_
  refine tN ?_
  refine cSeq ?_
  refine cReg ?_
  refine mV hTT _ rfl ?_
  refine mC0 (aPNorm (⟨⟨(cutf 2 fa), fun _ _ _ h => h, (fun i hi => (if_pos hi).symm)⟩, cfz_z⟩ : IsP (arow 2 (min na 6) (cutf 2 fa)) 2 (min na 6) (cfz (min na 6) (cutf 2 fa))) (by omega) (by decide)) rfl rfl rfl ?_
  refine mV hTT _ rfl ?_
  refine mC0 (aPNorm (⟨⟨(cutf 2 fb), fun _ _ _ h => h, (fun i hi => (if_pos hi).symm)⟩, cfz_z⟩ : IsP (arow 2 (min nb 6) (cutf 2 fb)) 2 (min nb 6) (cfz (min nb 6) (cutf 2 fb))) (by omega) (by decide)) rfl rfl rfl ?_
  refine mV hTT _ rfl ?_
  refine mV hTT _ rfl ?_
  refine mNil ?_
  refine tN ?_
  refine cSeq ?_
  refine cSeq ?_
  by_cases h0a : dg (cfz (min na 6) (cutf 2 fa)) (min na 6) = 0
  · skip
    refine cReg ?_
    refine mV hTT _ rfl ?_
    refine mV hTT (.d (.one (.v (.int .i64 ((dg (cfz (min na 6) (cutf 2 fa)) (min na 6) : Nat) : Int))))) rfl ?_
    refine mV hTT (.d (.one (.v (.bool true)))) (evb (by rw [h0a]; rfl)) ?_
    refine mV hTT _ rfl ?_
    refine mG rfl rfl ?_
    refine mG rfl rfl ?_
    refine mG rfl rfl ?_
    refine mV hTT _ rfl ?_
    refine mNil ?_
    refine tN ?_
    refine cT rfl ?_
    refine cSeq ?_
    refine cReg ?_
    refine mV hTT _ rfl ?_
    refine mV hTT (.d (.one (.v (.int .i64 ((dg (conv (cfz (min na 6) (cutf 2 fa)) (cfz (min nb 6) (cutf 2 fb))) ((min na 6) + (min nb 6)) : Nat) : Int))))) rfl ?_
    refine mV hTT (.d (.one (.v (.bool true)))) (evb (by rw [dg_zero (conv_l0 (dg_all cfz_z h0a))]; rfl)) ?_
    refine mV hTT _ rfl ?_
    refine mC0 (aWakes) rfl rfl rfl ?_
    refine mV hTT _ rfl ?_
    refine mV hTT _ rfl ?_
    refine mNil ?_
    refine tN ?_
    refine cRet ?_
    refine tR ?_
    exact rQ rfl (AV.le.rfl)
  · skip
    by_cases h0b : dg (cfz (min nb 6) (cutf 2 fb)) (min nb 6) = 0
    · skip
      refine cReg ?_
      refine mV hTT _ rfl ?_
      refine mV hTT (.d (.one (.v (.int .i64 ((dg (cfz (min na 6) (cutf 2 fa)) (min na 6) : Nat) : Int))))) rfl ?_
      refine mV hTT (.d (.one (.v (.bool false)))) (evb (beq_eq_false_iff_ne.2 fun e => h0a (by omega))) ?_
      refine mV hTT _ rfl ?_
      refine mV hTT _ rfl ?_
      refine mV hTT (.d (.one (.v (.int .i64 ((dg (cfz (min nb 6) (cutf 2 fb)) (min nb 6) : Nat) : Int))))) rfl ?_
      refine mV hTT (.d (.one (.v (.bool true)))) (evb (by rw [h0b]; rfl)) ?_
      refine mV hTT _ rfl ?_
      refine mNil ?_
      refine tN ?_
      refine cT rfl ?_
      refine cSeq ?_
      refine cReg ?_
      refine mV hTT _ rfl ?_
      refine mV hTT (.d (.one (.v (.int .i64 ((dg (conv (cfz (min na 6) (cutf 2 fa)) (cfz (min nb 6) (cutf 2 fb))) ((min na 6) + (min nb 6)) : Nat) : Int))))) rfl ?_
      refine mV hTT (.d (.one (.v (.bool true)))) (evb (by rw [dg_zero (conv_r0 (dg_all cfz_z h0b))]; rfl)) ?_
      refine mV hTT _ rfl ?_
      refine mC0 (aWakes) rfl rfl rfl ?_
      refine mV hTT _ rfl ?_
      refine mV hTT _ rfl ?_
      refine mNil ?_
      refine tN ?_
      refine cRet ?_
      refine tR ?_
      exact rQ rfl (AV.le.rfl)
    · skip
      refine cReg ?_
      refine mV hTT _ rfl ?_
      refine mV hTT (.d (.one (.v (.int .i64 ((dg (cfz (min na 6) (cutf 2 fa)) (min na 6) : Nat) : Int))))) rfl ?_
      refine mV hTT (.d (.one (.v (.bool false)))) (evb (beq_eq_false_iff_ne.2 fun e => h0a (by omega))) ?_
      refine mV hTT _ rfl ?_
      refine mV hTT _ rfl ?_
      refine mV hTT (.d (.one (.v (.int .i64 ((dg (cfz (min nb 6) (cutf 2 fb)) (min nb 6) : Nat) : Int))))) rfl ?_
      refine mV hTT (.d (.one (.v (.bool false)))) (evb (beq_eq_false_iff_ne.2 fun e => h0b (by omega))) ?_
      refine mV hTT _ rfl ?_
      refine mNil ?_
      refine tN ?_
      refine cF rfl ?_
      refine cSkip ?_
      refine tN ?_
      refine cSeq ?_
      have hl : dg (conv (cfz (min na 6) (cutf 2 fa)) (cfz (min nb 6) (cutf 2 fb))) ((min na 6) + (min nb 6)) = dg (cfz (min na 6) (cutf 2 fa)) (min na 6) + dg (cfz (min nb 6) (cutf 2 fb)) (min nb 6) - 1 := dg_conv h0a h0b (dg_z cfz_z) (dg_z cfz_z) (dg_ne h0a) (dg_ne h0b) (conv_z0 cfz_z cfz_z)
      have hl2 : dg (conv (cfz (min na 6) (cutf 2 fa)) (cfz (min nb 6) (cutf 2 fb))) (dg (conv (cfz (min na 6) (cutf 2 fa)) (cfz (min nb 6) (cutf 2 fb))) ((min na 6) + (min nb 6))) = dg (cfz (min na 6) (cutf 2 fa)) (min na 6) + dg (cfz (min nb 6) (cutf 2 fb)) (min nb 6) - 1 := (dg_eq (dg_z (conv_z0 cfz_z cfz_z)) (conv_z0 cfz_z cfz_z)).trans hl
      refine cReg ?_
      refine mV hTT _ rfl ?_
      refine mC0 (aDeg (K := 6005) (n := (dg (conv (cfz (min na 6) (cutf 2 fa)) (cfz (min nb 6) (cutf 2 fb))) ((min na 6) + (min nb 6)))) (c := (conv (cfz (min na 6) (cutf 2 fa)) (cfz (min nb 6) (cutf 2 fb)))) (by omega)) rfl rfl rfl ?_
      refine mV hTT _ rfl ?_
      refine mC0 (aDeg (K := 2) (n := (dg (cfz (min na 6) (cutf 2 fa)) (min na 6))) (c := (cfz (min na 6) (cutf 2 fa))) (by omega)) rfl rfl rfl ?_
      refine mV hTT _ rfl ?_
      refine mC0 (aDeg (K := 2) (n := (dg (cfz (min nb 6) (cutf 2 fb)) (min nb 6))) (c := (cfz (min nb 6) (cutf 2 fb))) (by omega)) rfl rfl rfl ?_
      refine mV hTT (.d (.one (.v (.int .i64 (((dg (cfz (min na 6) (cutf 2 fa)) (min na 6)) : Int) - 1 + (((dg (cfz (min nb 6) (cutf 2 fb)) (min nb 6)) : Int) - 1)))))) (evi (wr64 (by omega) (by omega))) ?_
      refine mV hTT (.d (.one (.v (.bool true)))) (evb (by rw [beq_iff_eq]; omega)) ?_
      refine mV hTT _ rfl ?_
      refine mV hTT _ rfl ?_
      refine mC0 (aPLead (isp (K := 6005) (c := (conv (cfz (min na 6) (cutf 2 fa)) (cfz (min nb 6) (cutf 2 fb)))) (dg_z (conv_z0 cfz_z cfz_z))) (by omega) (by decide)) rfl rfl rfl ?_
      refine mV hTT _ rfl ?_
      refine mC0 (aPLead (⟨⟨(cutf 2 fa), fun _ _ _ h => h, (fun i hi => (if_pos hi).symm)⟩, cfz_z⟩ : IsP (arow 2 (min na 6) (cutf 2 fa)) 2 (min na 6) (cfz (min na 6) (cutf 2 fa))) (by omega) (by decide)) rfl rfl rfl ?_
      refine mV hTT _ rfl ?_
      refine mC0 (aPLead (⟨⟨(cutf 2 fb), fun _ _ _ h => h, (fun i hi => (if_pos hi).symm)⟩, cfz_z⟩ : IsP (arow 2 (min nb 6) (cutf 2 fb)) 2 (min nb 6) (cfz (min nb 6) (cutf 2 fb))) (by omega) (by decide)) rfl rfl rfl ?_
      refine mC0 (aMul (isz 2 ((cfz (min na 6) (cutf 2 fa)) (dg (cfz (min na 6) (cutf 2 fa)) (min na 6) - 1))) (isz 2 ((cfz (min nb 6) (cutf 2 fb)) (dg (cfz (min nb 6) (cutf 2 fb)) (min nb 6) - 1))) (M := 4) (by decide) (by decide) (by decide)) rfl rfl rfl ?_
      refine mC0 (aCmp (isz 6005 ((conv (cfz (min na 6) (cutf 2 fa)) (cfz (min nb 6) (cutf 2 fb))) (dg (conv (cfz (min na 6) (cutf 2 fa)) (cfz (min nb 6) (cutf 2 fb))) (dg (conv (cfz (min na 6) (cutf 2 fa)) (cfz (min nb 6) (cutf 2 fb))) ((min na 6) + (min nb 6))) - 1))) (isz 4 (((cfz (min na 6) (cutf 2 fa)) (dg (cfz (min na 6) (cutf 2 fa)) (min na 6) - 1)) * ((cfz (min nb 6) (cutf 2 fb)) (dg (cfz (min nb 6) (cutf 2 fb)) (min nb 6) - 1)))) (by decide) (by decide)) rfl rfl rfl ?_
      refine mV hTT (.d (.one (.v (.bool true)))) (evb (by rw [hl2, show dg (cfz (min na 6) (cutf 2 fa)) (min na 6) + dg (cfz (min nb 6) (cutf 2 fb)) (min nb 6) - 1 - 1 = dg (cfz (min na 6) (cutf 2 fa)) (min na 6) + dg (cfz (min nb 6) (cutf 2 fb)) (min nb 6) - 2 by omega, conv_top (dg_z cfz_z) (dg_z cfz_z) h0a h0b]; simp [cmpZ])) ?_
      refine mV hTT _ rfl ?_
      refine mV hTT _ rfl ?_
      refine mC0 (aWakes) rfl rfl rfl ?_
      refine mV hTT _ rfl ?_
      refine mV hTT _ rfl ?_
      refine mNil ?_
      refine tN ?_
      refine cRet ?_
      exact rQ rfl (AV.le.rfl)

end Go.Proofs.Ytnnpjkalkfoolaa
