/-
  POLYNOMIALS, by the machine (4): products, sums of many, Move.
-/
import Derived.Test.YtnnpjkalkfoolaaMy
set_option linter.unusedVariables false
set_option linter.unusedSimpArgs false
namespace Go.Proofs.Ytnnpjkalkfoolaa
open Go.RowKit

set_option maxRecDepth 100000 in
set_option maxHeartbeats 4000000 in
theorem aPMul {a b : Lf} {K L M n m D : Nat} {c d : Nat → Int} (ha : IsP a K n c) (hb : IsP b L m d) (hD : n ≤ D) (hm : m ≤ 1000) (hM : K + L + 1 + D * 1000 ≤ M := by decide) (hDD : D ≤ 1000 := by decide) (hMM : M ≤ 1000000000 := by decide) : ACall Try.prog 35 [.one a, .one b] (.d (.one (prow M (dg (conv c d) (n + m)) (conv c d)))) := by
  obtain ⟨⟨fa, ha, ea⟩, za⟩ := ha
  obtain ⟨⟨fb, hb, eb⟩, zb⟩ := hb
  refine ACall.le (dl (DV.l ha) (dl (DV.l hb) dl0)) AV.le.rfl ?_
  refine acallN hTT 62 [.tmp 4] Try.func35 rfl rfl rfl rfl rfl ?_
  refine cSeq ?_
  refine cReg ?_
  refine mV hTT _ rfl ?_
  refine mNil ?_
  refine tN ?_
  refine cSeq ?_
  refine cReg ?_
  refine mV hTT _ rfl ?_
  refine mC0 (aPNorm (⟨⟨fa, fun _ _ _ h => h, ea⟩, za⟩ : IsP (arow K n fa) K n c) (by omega) (by omega)) rfl rfl rfl ?_
  refine mV hTT _ rfl ?_
  refine mC0 (aPNorm (⟨⟨fb, fun _ _ _ h => h, eb⟩, zb⟩ : IsP (arow L m fb) L m d) (by omega) (by omega)) rfl rfl rfl ?_
  refine mV hTT _ rfl ?_
  refine mV hTT _ rfl ?_
  refine mNil ?_
  refine tN ?_
  refine cSeq ?_
  refine cSeq ?_
  have hla := dg_le c n
  have hlb := dg_le d m
  by_cases h0a : (dg c n) = 0
  · skip
    refine cReg ?_
    refine mV hTT _ rfl ?_
    refine mV hTT (.d (.one (.v (.int .i64 ((dg c n : Nat) : Int))))) rfl ?_
    refine mV hTT (.d (.one (.v (.bool true)))) (evb (by rw [h0a]; rfl)) ?_
    refine mV hTT _ rfl ?_
    refine mG rfl rfl ?_
    refine mG rfl rfl ?_
    refine mG rfl rfl ?_
    refine mV hTT _ rfl ?_
    refine mNil ?_
    refine tN ?_
    refine cT rfl ?_
    refine cSeq ?_
    refine cReg ?_
    refine mV hTT _ rfl ?_
    refine mNil ?_
    refine tN ?_
    refine cRet ?_
    refine tR ?_
    exact rQ rfl (nil_prow' (dg_zero (conv_l0 (dg_all za h0a)) _))
  · skip
    by_cases h0b : (dg d m) = 0
    · skip
      refine cReg ?_
      refine mV hTT _ rfl ?_
      refine mV hTT (.d (.one (.v (.int .i64 ((dg c n : Nat) : Int))))) rfl ?_
      refine mV hTT (.d (.one (.v (.bool false)))) (evb (beq_eq_false_iff_ne.2 fun e => h0a (by omega))) ?_
      refine mV hTT _ rfl ?_
      refine mV hTT _ rfl ?_
      refine mV hTT (.d (.one (.v (.int .i64 ((dg d m : Nat) : Int))))) rfl ?_
      refine mV hTT (.d (.one (.v (.bool true)))) (evb (by rw [h0b]; rfl)) ?_
      refine mV hTT _ rfl ?_
      refine mNil ?_
      refine tN ?_
      refine cT rfl ?_
      refine cSeq ?_
      refine cReg ?_
      refine mV hTT _ rfl ?_
      refine mNil ?_
      refine tN ?_
      refine cRet ?_
      refine tR ?_
      exact rQ rfl (nil_prow' (dg_zero (conv_r0 (dg_all zb h0b)) _))
    · skip
      refine cReg ?_
      refine mV hTT _ rfl ?_
      refine mV hTT (.d (.one (.v (.int .i64 ((dg c n : Nat) : Int))))) rfl ?_
      refine mV hTT (.d (.one (.v (.bool false)))) (evb (beq_eq_false_iff_ne.2 fun e => h0a (by omega))) ?_
      refine mV hTT _ rfl ?_
      refine mV hTT _ rfl ?_
      refine mV hTT (.d (.one (.v (.int .i64 ((dg d m : Nat) : Int))))) rfl ?_
      refine mV hTT (.d (.one (.v (.bool false)))) (evb (beq_eq_false_iff_ne.2 fun e => h0b (by omega))) ?_
      refine mV hTT _ rfl ?_
      refine mNil ?_
      refine tN ?_
      refine cF rfl ?_
      refine cSkip ?_
      refine tN ?_
      refine cSeq ?_
      refine cReg ?_
      refine mV hTT _ rfl ?_
      refine mV hTT (.d (.one (.v (.int .i64 ((dg c n : Nat) : Int))))) rfl ?_
      refine mV hTT _ rfl ?_
      refine mV hTT (.d (.one (.v (.int .i64 ((dg d m : Nat) : Int))))) rfl ?_
      refine mV hTT (.d (.one (.v (.int .i64 ((dg c n + dg d m : Nat) : Int))))) (evi ((wr64 (by omega) (by omega)).trans (by omega))) ?_
      refine mV hTT (.d (.one (.v (.int .i64 ((dg c n + dg d m - 1 : Nat) : Int))))) (evi ((wr64 (by omega) (by omega)).trans (by omega))) ?_
      refine mN hTT (.row 26 2 (dg c n + dg d m - 1) (fun _ j => .v ((([Value.bool false, Value.slice none 0 0] : List Value)[j]?).getD undef))) (mkO (zl := ((dg c n + dg d m - 1 : Nat) : Int)) (zc := ((dg c n + dg d m - 1 : Nat) : Int)) (bts := 32) rfl rfl rfl rfl rfl (by omega) (by omega) rfl rfl rfl (by omega) (by omega) rfl) rfl rfl ?_
      refine mV hTT _ rfl ?_
      refine mNil ?_
      refine tN ?_
      refine cSeq ?_
      refine cSeq ?_
      refine cReg ?_
      refine mV hTT _ rfl ?_
      refine mV hTT (.d (.one (.v (.int .i64 ((dg c n : Nat) : Int))))) rfl ?_
      refine mV hTT _ rfl ?_
      refine mNil ?_
      refine tN ?_
      refine cBlock ?_
      refine cLoop (ι := Nat) (fun (i : Nat) => ⟨62, [(1, .d (.one (.row 2 (dg d m) (zel L d)))), (5, .own 28), (29, .d (.one (.row 2 (dg c n) (zel K c)))), (30, .d (.one (.v (.int .i64 ((dg c n : Nat) : Int))))), (31, .d (.one (.v (.int .i64 ((i : Nat) : Int)))))], [(28, .row 26 2 (dg c n + dg d m - 1) (zel (K + L + 1 + i * 1000) (cv c d i)))]⟩) (fun (i : Nat) => i ≤ dg c n) (fun (i : Nat) => dg c n - i) 0 (Nat.zero_le _) (wk (sl := [(1, .d (.one (.row 2 (dg d m) (zel L d)))), (5, .own 28), (29, .d (.one (.row 2 (dg c n) (zel K c)))), (30, .d (.one (.v (.int .i64 ((dg c n : Nat) : Int))))), (31, .d (.one (.v (.int .i64 ((0 : Nat) : Int)))))]) (hp := [(28, .row 26 2 (dg c n + dg d m - 1) (zel (K + L + 1 + 0 * 1000) (cv c d 0)))]) rfl ⟨hs rfl, hs rfl, hs rfl, hs rfl, hs rfl, trivial⟩ ⟨ho' rfl (leo_zero (fun _ _ => rfl)), trivial⟩ rfl) ?_
      rintro i hI
      have hi : i ≤ dg c n := hI
      show AW Try.prog _ _ ⟨62, [(1, .d (.one (.row 2 (dg d m) (zel L d)))), (5, .own 28), (29, .d (.one (.row 2 (dg c n) (zel K c)))), (30, .d (.one (.v (.int .i64 ((dg c n : Nat) : Int))))), (31, .d (.one (.v (.int .i64 ((i : Nat) : Int)))))], [(28, .row 26 2 (dg c n + dg d m - 1) (zel (K + L + 1 + i * 1000) (cv c d i)))]⟩
      refine cSeq ?_
      refine cReg ?_
      refine mV hTT (.d (.one (.v (.bool (decide (((i : Nat) : Int) < ((dg c n : Nat) : Int))))))) rfl ?_
      refine mNil ?_
      refine tN ?_
      refine cSeq ?_
      refine cCond rfl (fun hc1 => ?_) (fun hc1 => ?_)
      · skip
        refine cSkip ?_
        refine tN ?_
        refine cSeq ?_
        refine cBlock ?_
        refine cSeq ?_
        have hia : i < dg c n := by have h0 := of_decide_eq_true hc1; omega
        refine cReg ?_
        refine mV hTT _ rfl ?_
        refine mV hTT (.d (.one (.at 2 ((zel K c) i)))) (ixR (el := (zel K c)) (z := ((i : Nat) : Int)) (n := (dg c n)) rfl rfl rfl rfl rfl rfl (by omega) (by omega)) ?_
        refine mV hTT (.d (.agg (zn K (c i)))) rfl ?_
        refine mN hTT (.box 26 ([.v (.bool false), .v (.slice none 0 0)])) rfl rfl rfl ?_
        refine mV hTT _ rfl ?_
        refine mS hTT 7 (.box 26 (zn K (c i))) rfl ?_
        refine mNil ?_
        refine tN ?_
        refine cSeq ?_
        refine cReg ?_
        refine mV hTT _ rfl ?_
        refine mV hTT (.d (.one (.v (.int .i64 ((dg d m : Nat) : Int))))) rfl ?_
        refine mV hTT _ rfl ?_
        refine mNil ?_
        refine tN ?_
        refine cBlock ?_
        refine cLoop (ι := Nat) (fun (k : Nat) => ⟨62, [(1, .d (.one (.row 2 (dg d m) (zel L d)))), (5, .own 28), (29, .d (.one (.row 2 (dg c n) (zel K c)))), (30, .d (.one (.v (.int .i64 ((dg c n : Nat) : Int))))), (31, .d (.one (.v (.int .i64 ((i : Nat) : Int))))), (6, .d (.one (.v (.int .i64 ((i : Nat) : Int))))), (7, .ptr 7 0), (36, .d (.one (.row 2 (dg d m) (zel L d)))), (37, .d (.one (.v (.int .i64 ((dg d m : Nat) : Int))))), (38, .d (.one (.v (.int .i64 ((k : Nat) : Int)))))], [(7, .box 26 (zn K (c i))), (28, .row 26 2 (dg c n + dg d m - 1) (zel (K + L + 1 + i * 1000 + k) (cvk c d i k)))]⟩) (fun (k : Nat) => k ≤ dg d m) (fun (k : Nat) => dg d m - k) 0 (Nat.zero_le _) (wk (sl := [(1, .d (.one (.row 2 (dg d m) (zel L d)))), (5, .own 28), (29, .d (.one (.row 2 (dg c n) (zel K c)))), (30, .d (.one (.v (.int .i64 ((dg c n : Nat) : Int))))), (31, .d (.one (.v (.int .i64 ((i : Nat) : Int))))), (6, .d (.one (.v (.int .i64 ((i : Nat) : Int))))), (7, .ptr 7 0), (36, .d (.one (.row 2 (dg d m) (zel L d)))), (37, .d (.one (.v (.int .i64 ((dg d m : Nat) : Int))))), (38, .d (.one (.v (.int .i64 ((0 : Nat) : Int)))))]) (hp := [(7, .box 26 (zn K (c i))), (28, .row 26 2 (dg c n + dg d m - 1) (zel (K + L + 1 + i * 1000 + 0) (cvk c d i 0)))]) rfl ⟨hs rfl, hs rfl, hs rfl, hs rfl, hs rfl, hs rfl, hs rfl, hs rfl, hs rfl, hs rfl, trivial⟩ ⟨ho rfl, ho' rfl (leo_prow (by omega) (fun j _ => cvk_zero.symm)), trivial⟩ rfl) ?_
        rintro k hI
        have hk : k ≤ dg d m := hI
        show AW Try.prog _ _ ⟨62, [(1, .d (.one (.row 2 (dg d m) (zel L d)))), (5, .own 28), (29, .d (.one (.row 2 (dg c n) (zel K c)))), (30, .d (.one (.v (.int .i64 ((dg c n : Nat) : Int))))), (31, .d (.one (.v (.int .i64 ((i : Nat) : Int))))), (6, .d (.one (.v (.int .i64 ((i : Nat) : Int))))), (7, .ptr 7 0), (36, .d (.one (.row 2 (dg d m) (zel L d)))), (37, .d (.one (.v (.int .i64 ((dg d m : Nat) : Int))))), (38, .d (.one (.v (.int .i64 ((k : Nat) : Int)))))], [(7, .box 26 (zn K (c i))), (28, .row 26 2 (dg c n + dg d m - 1) (zel (K + L + 1 + i * 1000 + k) (cvk c d i k)))]⟩
        refine cSeq ?_
        refine cReg ?_
        refine mV hTT (.d (.one (.v (.bool (decide (((k : Nat) : Int) < ((dg d m : Nat) : Int))))))) rfl ?_
        refine mNil ?_
        refine tN ?_
        refine cSeq ?_
        refine cCond rfl (fun hc2 => ?_) (fun hc2 => ?_)
        · skip
          refine cSkip ?_
          refine tN ?_
          refine cSeq ?_
          refine cBlock ?_
          refine cSeq ?_
          have hkb : k < dg d m := by have h0 := of_decide_eq_true hc2; omega
          refine cReg ?_
          refine mV hTT _ rfl ?_
          refine mV hTT (.d (.one (.at 2 ((zel L d) k)))) (ixR (el := (zel L d)) (z := ((k : Nat) : Int)) (n := (dg d m)) rfl rfl rfl rfl rfl rfl (by omega) (by omega)) ?_
          refine mV hTT (.d (.agg (zn L (d k)))) rfl ?_
          refine mN hTT (.box 26 ([.v (.bool false), .v (.slice none 0 0)])) rfl rfl rfl ?_
          refine mV hTT _ rfl ?_
          refine mS hTT 9 (.box 26 (zn L (d k))) rfl ?_
          refine mNil ?_
          refine tN ?_
          refine cDrawK hTT 15 (by kernel_rfl) (by kernel_rfl) ?_
          refine .cons (OpS.V _ rfl) ?_
          refine .cons (OpS.V _ rfl) ?_
          refine .cons (OpS.V _ rfl) ?_
          refine .cons (OpS.V (.d (.one (.v (.int .i64 ((i + k : Nat) : Int))))) (evi ((wr64 (by omega) (by omega)).trans (by omega)))) ?_
          refine .cons (OpS.V _ rfl) ?_
          refine .cons (OpS.V _ rfl) ?_
          refine .cons (OpS.V _ rfl) ?_
          refine .cons (OpS.V (.d (.one (.v (.int .i64 ((i + k : Nat) : Int))))) (evi ((wr64 (by omega) (by omega)).trans (by omega)))) ?_
          refine .cons (OpS.V (.eptr 28 2 (i + k) 0) (ixO (z := ((i + k : Nat) : Int)) (n := (dg c n + dg d m - 1)) rfl rfl rfl rfl rfl rfl rfl (by omega) (by omega))) ?_
          refine .cons (OpS.V (.d (.agg (zn (K + L + 1 + i * 1000 + k) (cvk c d i k (i + k))))) rfl) ?_
          refine .cons (OpS.V (.d (.agg (zn K (c i)))) rfl) ?_
          refine .cons (OpS.V (.d (.agg (zn L (d k)))) rfl) ?_
          refine .cons (OpS.C0 (aMul (isz K (c i)) (isz L (d k)) (M := (K + L)) (by omega) (by omega) (by omega)) rfl rfl rfl) ?_
          refine .cons (OpS.C0 (aAdd (isz (K + L + 1 + i * 1000 + k) (cvk c d i k (i + k))) (isz (K + L) ((c i) * (d k))) (M := (max (K + L + 1 + i * 1000 + k) (K + L) + 1)) (by omega) (by omega) (by omega)) rfl rfl rfl) ?_
          refine .cons (OpS.V (.eptr 28 2 (i + k) 0) (ixO (z := ((i + k : Nat) : Int)) (n := (dg c n + dg d m - 1)) rfl rfl rfl rfl rfl rfl rfl (by omega) (by omega))) ?_
          refine .nil ?_
          refine mS hTT 28 (.row 26 2 (dg c n + dg d m - 1) (fun p' q' => if p' = (i + k) then ((zn (max (K + L + 1 + i * 1000 + k) (K + L) + 1) ((cvk c d i k (i + k)) + ((c i) * (d k))))[q']?).getD (.v undef) else (zel (K + L + 1 + i * 1000 + k) (cvk c d i k)) p' q')) rfl ?_
          refine mNil ?_
          refine bN ?_
          refine tN ?_
          refine cReg ?_
          refine mV hTT (.d (.one (.v (.int .i64 (IntKind.i64.wrap (((k : Nat) : Int) + 1)))))) rfl ?_
          refine mV hTT _ rfl ?_
          refine mNil ?_
          exact ⟨(k + 1), by omega, by omega, wk (sl := [(1, .d (.one (.row 2 (dg d m) (zel L d)))), (5, .own 28), (29, .d (.one (.row 2 (dg c n) (zel K c)))), (30, .d (.one (.v (.int .i64 ((dg c n : Nat) : Int))))), (31, .d (.one (.v (.int .i64 ((i : Nat) : Int))))), (6, .d (.one (.v (.int .i64 ((i : Nat) : Int))))), (7, .ptr 7 0), (36, .d (.one (.row 2 (dg d m) (zel L d)))), (37, .d (.one (.v (.int .i64 ((dg d m : Nat) : Int))))), (38, .d (.one (.v (.int .i64 (((k + 1) : Nat) : Int)))))]) (hp := [(7, .box 26 (zn K (c i))), (28, .row 26 2 (dg c n + dg d m - 1) (zel (K + L + 1 + i * 1000 + (k + 1)) (cvk c d i (k + 1))))]) rfl ⟨hs rfl, hs rfl, hs rfl, hs rfl, hs rfl, hs rfl, hs rfl, hs rfl, hs rfl, hs' rfl (le_int (inc64 (by omega))), trivial⟩ ⟨ho rfl, ho' rfl (st_z (by omega) (by omega) cvk_step (fun p _ hp => cvk_other hp)), trivial⟩ rfl⟩
        · skip
          refine cExit ?_
          refine tE ?_
          refine tE ?_
          refine bE ?_
          refine bN ?_
          refine tN ?_
          have hke : dg d m = k := by have h0 := of_decide_eq_false hc2; omega
          subst hke
          refine cReg ?_
          refine mV hTT (.d (.one (.v (.int .i64 (IntKind.i64.wrap (((i : Nat) : Int) + 1)))))) rfl ?_
          refine mV hTT _ rfl ?_
          refine mNil ?_
          exact ⟨(i + 1), by omega, by omega, wk (sl := [(1, .d (.one (.row 2 (dg d m) (zel L d)))), (5, .own 28), (29, .d (.one (.row 2 (dg c n) (zel K c)))), (30, .d (.one (.v (.int .i64 ((dg c n : Nat) : Int))))), (31, .d (.one (.v (.int .i64 (((i + 1) : Nat) : Int)))))]) (hp := [(28, .row 26 2 (dg c n + dg d m - 1) (zel (K + L + 1 + (i + 1) * 1000) (cv c d (i + 1))))]) rfl ⟨hs rfl, hs rfl, hs rfl, hs rfl, hs' rfl (le_int (inc64 (by omega))), trivial⟩ ⟨ho' rfl (leo_prow (by omega) (fun j _ => cvk_end (dg_z zb))), trivial⟩ rfl⟩
      · skip
        refine cExit ?_
        refine tE ?_
        refine tE ?_
        refine bE ?_
        refine tN ?_
        refine cSeq ?_
        have hie : dg c n = i := by have h0 := of_decide_eq_false hc1; omega
        subst hie
        refine AW.wk (wkRow 28 rfl) ?_
        refine cView 5 (.d (.one (.row 2 (dg c n + dg d m - 1) (zel M (conv c d))))) rfl (le_one (prow_le (by omega) (fun j _ => cv_conv (dg_z za)))) ?_
        refine cReg ?_
        refine mV hTT _ rfl ?_
        refine mC0 (aPCut (K := M) (n := (dg c n + dg d m - 1)) (c := (conv c d)) (by omega)) rfl rfl rfl ?_
        refine mV hTT _ rfl ?_
        refine mNil ?_
        refine tN ?_
        refine cRet ?_
        exact rQ rfl (le_prow (Nat.le_refl _) (dg_eq (fun j hj => conv_beyond (dg_z za) (dg_z zb) (by omega)) (fun j hj => conv_beyond za zb (by omega))) (fun _ _ => rfl))

set_option maxRecDepth 100000 in
set_option maxHeartbeats 4000000 in
theorem aQMul {a b : Lf} {K L M n m D : Nat} {c d : Nat → Rat} (ha : IsQP a K n c) (hb : IsQP b L m d) (hD : n ≤ D) (hm : m ≤ 1000) (hM : (D + 1) * (K + L + 66) ≤ M := by decide) (hDD : D ≤ 1000 := by decide) (hMM : M ≤ 10000000 := by decide) : ACall Try.prog 20 [.one a, .one b] (.d (.one (qrow M (dg (conv c d) (n + m)) (conv c d)))) := by
  obtain ⟨ha, za⟩ := ha
  obtain ⟨hb, zb⟩ := hb
  refine ACall.le (dl (DV.l ha) (dl (DV.l hb) dl0)) AV.le.rfl ?_
  obtain ⟨R, hR0, hR1, hRM⟩ : ∃ R : Nat → Nat, 64 ≤ R 0 ∧ (∀ i, R i + (K + L + 66) ≤ R (i + 1)) ∧ ∀ i, i ≤ n → R i ≤ M := ⟨fun i => (i + 1) * (K + L + 66), by simp, fun i => by show (i + 1) * (K + L + 66) + (K + L + 66) ≤ (i + 1 + 1) * (K + L + 66); rw [Nat.succ_mul (i + 1)]; exact Nat.le_refl _, fun i hi => Nat.le_trans (Nat.mul_le_mul_right _ (by omega)) hM⟩
  refine acallN hTT 69 [.tmp 4] Try.func20 rfl rfl rfl rfl rfl ?_
  refine cSeq ?_
  refine cReg ?_
  refine mV hTT _ rfl ?_
  refine mNil ?_
  refine tN ?_
  refine cSeq ?_
  refine cSeq ?_
  by_cases h0a : n = 0
  · skip
    refine cReg ?_
    refine mV hTT _ rfl ?_
    refine mV hTT (.d (.one (.v (.int .i64 (n : Int))))) rfl ?_
    refine mV hTT (.d (.one (.v (.bool true)))) (evb (by rw [h0a]; rfl)) ?_
    refine mV hTT _ rfl ?_
    refine mG rfl rfl ?_
    refine mG rfl rfl ?_
    refine mG rfl rfl ?_
    refine mV hTT _ rfl ?_
    refine mNil ?_
    refine tN ?_
    refine cT rfl ?_
    refine cSeq ?_
    refine cReg ?_
    refine mV hTT _ rfl ?_
    refine mNil ?_
    refine tN ?_
    refine cRet ?_
    refine tR ?_
    exact rQ rfl (nil_qrow' (dg_zero (conv_l0Q (fun i => za i (by omega))) _))
  · skip
    by_cases h0b : m = 0
    · skip
      refine cReg ?_
      refine mV hTT _ rfl ?_
      refine mV hTT (.d (.one (.v (.int .i64 (n : Int))))) rfl ?_
      refine mV hTT (.d (.one (.v (.bool false)))) (evb (beq_eq_false_iff_ne.2 fun e => h0a (by omega))) ?_
      refine mV hTT _ rfl ?_
      refine mV hTT _ rfl ?_
      refine mV hTT (.d (.one (.v (.int .i64 (m : Int))))) rfl ?_
      refine mV hTT (.d (.one (.v (.bool true)))) (evb (by rw [h0b]; rfl)) ?_
      refine mV hTT _ rfl ?_
      refine mNil ?_
      refine tN ?_
      refine cT rfl ?_
      refine cSeq ?_
      refine cReg ?_
      refine mV hTT _ rfl ?_
      refine mNil ?_
      refine tN ?_
      refine cRet ?_
      refine tR ?_
      exact rQ rfl (nil_qrow' (dg_zero (conv_r0Q (fun i => zb i (by omega))) _))
    · skip
      refine cReg ?_
      refine mV hTT _ rfl ?_
      refine mV hTT (.d (.one (.v (.int .i64 (n : Int))))) rfl ?_
      refine mV hTT (.d (.one (.v (.bool false)))) (evb (beq_eq_false_iff_ne.2 fun e => h0a (by omega))) ?_
      refine mV hTT _ rfl ?_
      refine mV hTT _ rfl ?_
      refine mV hTT (.d (.one (.v (.int .i64 (m : Int))))) rfl ?_
      refine mV hTT (.d (.one (.v (.bool false)))) (evb (beq_eq_false_iff_ne.2 fun e => h0b (by omega))) ?_
      refine mV hTT _ rfl ?_
      refine mNil ?_
      refine tN ?_
      refine cF rfl ?_
      refine cSkip ?_
      refine tN ?_
      refine cSeq ?_
      refine cReg ?_
      refine mV hTT _ rfl ?_
      refine mV hTT (.d (.one (.v (.int .i64 (n : Int))))) rfl ?_
      refine mV hTT _ rfl ?_
      refine mV hTT (.d (.one (.v (.int .i64 (m : Int))))) rfl ?_
      refine mV hTT (.d (.one (.v (.int .i64 ((n + m : Nat) : Int))))) (evi ((wr64 (by omega) (by omega)).trans (by omega))) ?_
      refine mV hTT (.d (.one (.v (.int .i64 ((n + m - 1 : Nat) : Int))))) (evi ((wr64 (by omega) (by omega)).trans (by omega))) ?_
      refine mN hTT (.row 43 4 (n + m - 1) (fun _ j => .v ((([Value.slice none 0 0, Value.bool false, Value.slice none 0 0, Value.bool false] : List Value)[j]?).getD undef))) (mkO (zl := ((n + m - 1 : Nat) : Int)) (zc := ((n + m - 1 : Nat) : Int)) (bts := 64) rfl rfl rfl rfl rfl (by omega) (by omega) rfl rfl rfl (by omega) (by omega) rfl) rfl rfl ?_
      refine mV hTT _ rfl ?_
      refine mNil ?_
      refine tN ?_
      refine cSeq ?_
      refine cSeq ?_
      refine cReg ?_
      refine mV hTT _ rfl ?_
      refine mV hTT (.d (.one (.v (.int .i64 ((n + m - 1 : Nat) : Int))))) rfl ?_
      refine mV hTT _ rfl ?_
      refine mNil ?_
      refine tN ?_
      refine cBlock ?_
      refine cLoop (ι := Nat) (fun (i : Nat) => ⟨69, [(0, .d (.one (.row 4 n (qel K c)))), (1, .d (.one (.row 4 m (qel L d)))), (5, .own 23), (25, .d (.one (.v (.int .i64 ((n + m - 1 : Nat) : Int))))), (26, .d (.one (.v (.int .i64 ((i : Nat) : Int)))))], [(23, .row 43 4 (n + m - 1) (qpre 64 i (fun _ => 0) (fun j => .v ((([Value.slice none 0 0, Value.bool false, Value.slice none 0 0, Value.bool false] : List Value)[j]?).getD undef))))]⟩) (fun (i : Nat) => i ≤ n + m - 1) (fun (i : Nat) => n + m - 1 - i) 0 (Nat.zero_le _) (wk (sl := [(0, .d (.one (.row 4 n (qel K c)))), (1, .d (.one (.row 4 m (qel L d)))), (5, .own 23), (25, .d (.one (.v (.int .i64 ((n + m - 1 : Nat) : Int))))), (26, .d (.one (.v (.int .i64 ((0 : Nat) : Int)))))]) (hp := [(23, .row 43 4 (n + m - 1) (qpre 64 0 (fun _ => 0) (fun j => .v ((([Value.slice none 0 0, Value.bool false, Value.slice none 0 0, Value.bool false] : List Value)[j]?).getD undef))))]) rfl ⟨hs rfl, hs rfl, hs rfl, hs rfl, hs rfl, trivial⟩ ⟨ho' rfl (leo_pre0), trivial⟩ rfl) ?_
      rintro i hI
      have hi : i ≤ n + m - 1 := hI
      show AW Try.prog _ _ ⟨69, [(0, .d (.one (.row 4 n (qel K c)))), (1, .d (.one (.row 4 m (qel L d)))), (5, .own 23), (25, .d (.one (.v (.int .i64 ((n + m - 1 : Nat) : Int))))), (26, .d (.one (.v (.int .i64 ((i : Nat) : Int)))))], [(23, .row 43 4 (n + m - 1) (qpre 64 i (fun _ => 0) (fun j => .v ((([Value.slice none 0 0, Value.bool false, Value.slice none 0 0, Value.bool false] : List Value)[j]?).getD undef))))]⟩
      refine cSeq ?_
      refine cReg ?_
      refine mV hTT (.d (.one (.v (.bool (decide (((i : Nat) : Int) < ((n + m - 1 : Nat) : Int))))))) rfl ?_
      refine mNil ?_
      refine tN ?_
      refine cSeq ?_
      refine cCond rfl (fun hc1 => ?_) (fun hc1 => ?_)
      · skip
        refine cSkip ?_
        refine tN ?_
        refine cSeq ?_
        refine cBlock ?_
        refine cSeq ?_
        have hin : i < n + m - 1 := by have h0 := of_decide_eq_true hc1; omega
        refine cReg ?_
        refine mV hTT _ rfl ?_
        refine mV hTT _ rfl ?_
        refine mNil ?_
        refine tN ?_
        refine cReg ?_
        refine mV hTT _ rfl ?_
        refine mV hTT _ rfl ?_
        refine mC0 (aQZero) rfl rfl rfl ?_
        refine mV hTT (.eptr 23 4 i 0) (ixO (z := ((i : Nat) : Int)) (n := (n + m - 1)) rfl rfl rfl rfl rfl rfl rfl (by omega) (by omega)) ?_
        refine mS hTT 23 (.row 43 4 (n + m - 1) (fun p' q' => if p' = i then ((qn 64 0)[q']?).getD (.v undef) else (qpre 64 i (fun _ => 0) (fun j => .v ((([Value.slice none 0 0, Value.bool false, Value.slice none 0 0, Value.bool false] : List Value)[j]?).getD undef))) p' q')) rfl ?_
        refine mNil ?_
        refine bN ?_
        refine tN ?_
        refine cReg ?_
        refine mV hTT (.d (.one (.v (.int .i64 (IntKind.i64.wrap (((i : Nat) : Int) + 1)))))) rfl ?_
        refine mV hTT _ rfl ?_
        refine mNil ?_
        exact ⟨(i + 1), by omega, by omega, wk (sl := [(0, .d (.one (.row 4 n (qel K c)))), (1, .d (.one (.row 4 m (qel L d)))), (5, .own 23), (25, .d (.one (.v (.int .i64 ((n + m - 1 : Nat) : Int))))), (26, .d (.one (.v (.int .i64 (((i + 1) : Nat) : Int)))))]) (hp := [(23, .row 43 4 (n + m - 1) (qpre 64 (i + 1) (fun _ => 0) (fun j => .v ((([Value.slice none 0 0, Value.bool false, Value.slice none 0 0, Value.bool false] : List Value)[j]?).getD undef))))]) rfl ⟨hs rfl, hs rfl, hs rfl, hs rfl, hs' rfl (le_int (inc64 (by omega))), trivial⟩ ⟨ho' rfl (st_pre (Nat.le_refl _) rfl), trivial⟩ rfl⟩
      · skip
        refine cExit ?_
        refine tE ?_
        refine tE ?_
        refine bE ?_
        refine tN ?_
        refine cSeq ?_
        refine cSeq ?_
        have hie : n + m - 1 = i := by have h0 := of_decide_eq_false hc1; omega
        subst hie
        refine cReg ?_
        refine mV hTT _ rfl ?_
        refine mV hTT (.d (.one (.v (.int .i64 (n : Int))))) rfl ?_
        refine mV hTT _ rfl ?_
        refine mNil ?_
        refine tN ?_
        refine cBlock ?_
        refine cLoop (ι := Nat) (fun (i : Nat) => ⟨69, [(0, .d (.one (.row 4 n (qel K c)))), (1, .d (.one (.row 4 m (qel L d)))), (5, .own 23), (35, .d (.one (.v (.int .i64 (n : Int))))), (36, .d (.one (.v (.int .i64 ((i : Nat) : Int)))))], [(23, .row 43 4 (n + m - 1) (qelv (fun _ => R i) (cv c d i)))]⟩) (fun (i : Nat) => i ≤ n) (fun (i : Nat) => n - i) 0 (Nat.zero_le _) (wk (sl := [(0, .d (.one (.row 4 n (qel K c)))), (1, .d (.one (.row 4 m (qel L d)))), (5, .own 23), (35, .d (.one (.v (.int .i64 (n : Int))))), (36, .d (.one (.v (.int .i64 ((0 : Nat) : Int)))))]) (hp := [(23, .row 43 4 (n + m - 1) (qelv (fun _ => R 0) (cv c d 0)))]) rfl ⟨hs rfl, hs rfl, hs rfl, hs rfl, hs rfl, trivial⟩ ⟨ho' rfl (leo_pre (fun p _ => hR0) (fun _ _ => rfl)), trivial⟩ rfl) ?_
        rintro i hI
        have hi2 : i ≤ n := hI
        show AW Try.prog _ _ ⟨69, [(0, .d (.one (.row 4 n (qel K c)))), (1, .d (.one (.row 4 m (qel L d)))), (5, .own 23), (35, .d (.one (.v (.int .i64 (n : Int))))), (36, .d (.one (.v (.int .i64 ((i : Nat) : Int)))))], [(23, .row 43 4 (n + m - 1) (qelv (fun _ => R i) (cv c d i)))]⟩
        refine cSeq ?_
        refine cReg ?_
        refine mV hTT (.d (.one (.v (.bool (decide (((i : Nat) : Int) < (n : Int))))))) rfl ?_
        refine mNil ?_
        refine tN ?_
        refine cSeq ?_
        refine cCond rfl (fun hc2 => ?_) (fun hc2 => ?_)
        · skip
          refine cSkip ?_
          refine tN ?_
          refine cSeq ?_
          refine cBlock ?_
          refine cSeq ?_
          have hia : i < n := by have h0 := of_decide_eq_true hc2; omega
          have hR := hR1 i
          have hRm := hRM (i + 1) hia
          refine cReg ?_
          refine mV hTT _ rfl ?_
          refine mV hTT _ rfl ?_
          refine mNil ?_
          refine tN ?_
          refine cSeq ?_
          refine cReg ?_
          refine mV hTT _ rfl ?_
          refine mV hTT (.d (.one (.v (.int .i64 (m : Int))))) rfl ?_
          refine mV hTT _ rfl ?_
          refine mNil ?_
          refine tN ?_
          refine cBlock ?_
          refine cLoop (ι := Nat) (fun (k : Nat) => ⟨69, [(0, .d (.one (.row 4 n (qel K c)))), (1, .d (.one (.row 4 m (qel L d)))), (5, .own 23), (35, .d (.one (.v (.int .i64 (n : Int))))), (36, .d (.one (.v (.int .i64 ((i : Nat) : Int))))), (7, .d (.one (.v (.int .i64 ((i : Nat) : Int))))), (40, .d (.one (.v (.int .i64 (m : Int))))), (41, .d (.one (.v (.int .i64 ((k : Nat) : Int)))))], [(23, .row 43 4 (n + m - 1) (qelv (kf R i k) (cvkQ c d i k)))]⟩) (fun (k : Nat) => k ≤ m) (fun (k : Nat) => m - k) 0 (Nat.zero_le _) (wk (sl := [(0, .d (.one (.row 4 n (qel K c)))), (1, .d (.one (.row 4 m (qel L d)))), (5, .own 23), (35, .d (.one (.v (.int .i64 (n : Int))))), (36, .d (.one (.v (.int .i64 ((i : Nat) : Int))))), (7, .d (.one (.v (.int .i64 ((i : Nat) : Int))))), (40, .d (.one (.v (.int .i64 (m : Int))))), (41, .d (.one (.v (.int .i64 ((0 : Nat) : Int)))))]) (hp := [(23, .row 43 4 (n + m - 1) (qelv (kf R i 0) (cvkQ c d i 0)))]) rfl ⟨hs rfl, hs rfl, hs rfl, hs rfl, hs rfl, hs rfl, hs rfl, hs rfl, trivial⟩ ⟨ho' rfl (leo_qelv (fun p _ => kf_start) (fun j _ => cvkQ_zero.symm)), trivial⟩ rfl) ?_
          rintro k hI
          have hk : k ≤ m := hI
          show AW Try.prog _ _ ⟨69, [(0, .d (.one (.row 4 n (qel K c)))), (1, .d (.one (.row 4 m (qel L d)))), (5, .own 23), (35, .d (.one (.v (.int .i64 (n : Int))))), (36, .d (.one (.v (.int .i64 ((i : Nat) : Int))))), (7, .d (.one (.v (.int .i64 ((i : Nat) : Int))))), (40, .d (.one (.v (.int .i64 (m : Int))))), (41, .d (.one (.v (.int .i64 ((k : Nat) : Int)))))], [(23, .row 43 4 (n + m - 1) (qelv (kf R i k) (cvkQ c d i k)))]⟩
          refine cSeq ?_
          refine cReg ?_
          refine mV hTT (.d (.one (.v (.bool (decide (((k : Nat) : Int) < (m : Int))))))) rfl ?_
          refine mNil ?_
          refine tN ?_
          refine cSeq ?_
          refine cCond rfl (fun hc3 => ?_) (fun hc3 => ?_)
          · skip
            refine cSkip ?_
            refine tN ?_
            refine cSeq ?_
            refine cBlock ?_
            refine cSeq ?_
            have hkb : k < m := by have h0 := of_decide_eq_true hc3; omega
            have hkf : kf R i k (i + k) = R i := kf_at
            refine cReg ?_
            refine mV hTT _ rfl ?_
            refine mV hTT _ rfl ?_
            refine mNil ?_
            refine tN ?_
            refine cDrawK hTT 21 (by kernel_rfl) (by kernel_rfl) ?_
            refine .cons (OpS.V _ rfl) ?_
            refine .cons (OpS.V _ rfl) ?_
            refine .cons (OpS.V _ rfl) ?_
            refine .cons (OpS.V (.d (.one (.v (.int .i64 ((i + k : Nat) : Int))))) (evi ((wr64 (by omega) (by omega)).trans (by omega)))) ?_
            refine .cons (OpS.V _ rfl) ?_
            refine .cons (OpS.V _ rfl) ?_
            refine .cons (OpS.V _ rfl) ?_
            refine .cons (OpS.V (.d (.one (.v (.int .i64 ((i + k : Nat) : Int))))) (evi ((wr64 (by omega) (by omega)).trans (by omega)))) ?_
            refine .cons (OpS.V (.eptr 23 4 (i + k) 0) (ixO (z := ((i + k : Nat) : Int)) (n := (n + m - 1)) rfl rfl rfl rfl rfl rfl rfl (by omega) (by omega))) ?_
            refine .cons (OpS.V (.d (.agg (qn (kf R i k (i + k)) (cvkQ c d i k (i + k))))) rfl) ?_
            refine .cons (OpS.V _ rfl) ?_
            refine .cons (OpS.V _ rfl) ?_
            refine .cons (OpS.V (.d (.one (.at 4 ((qel K c) i)))) (ixR (el := (qel K c)) (z := ((i : Nat) : Int)) (n := n) rfl rfl rfl rfl rfl rfl (by omega) (by omega))) ?_
            refine .cons (OpS.V (.d (.agg (qn K (c i)))) rfl) ?_
            refine .cons (OpS.V _ rfl) ?_
            refine .cons (OpS.V _ rfl) ?_
            refine .cons (OpS.V (.d (.one (.at 4 ((qel L d) k)))) (ixR (el := (qel L d)) (z := ((k : Nat) : Int)) (n := m) rfl rfl rfl rfl rfl rfl (by omega) (by omega))) ?_
            refine .cons (OpS.V (.d (.agg (qn L (d k)))) rfl) ?_
            refine .cons (OpS.C0 (aRMulR (isq K (c i)) (isq L (d k)) (M := (max (K + L + 1) 64)) (by omega) (by omega)) rfl rfl rfl) ?_
            refine .cons (OpS.C0 (aRAddR (isq (kf R i k (i + k)) (cvkQ c d i k (i + k))) (isq (max (K + L + 1) 64) ((c i) * (d k))) (M := (max ((kf R i k (i + k)) + (max (K + L + 1) 64) + 1) 64)) (by omega) (by omega)) rfl rfl rfl) ?_
            refine .cons (OpS.V (.eptr 23 4 (i + k) 0) (ixO (z := ((i + k : Nat) : Int)) (n := (n + m - 1)) rfl rfl rfl rfl rfl rfl rfl (by omega) (by omega))) ?_
            refine .nil ?_
            refine mS hTT 23 (.row 43 4 (n + m - 1) (fun p' q' => if p' = (i + k) then ((qn (max ((kf R i k (i + k)) + (max (K + L + 1) 64) + 1) 64) ((cvkQ c d i k (i + k)) + ((c i) * (d k))))[q']?).getD (.v undef) else (qelv (kf R i k) (cvkQ c d i k)) p' q')) rfl ?_
            refine mNil ?_
            refine bN ?_
            refine tN ?_
            refine cReg ?_
            refine mV hTT (.d (.one (.v (.int .i64 (IntKind.i64.wrap (((k : Nat) : Int) + 1)))))) rfl ?_
            refine mV hTT _ rfl ?_
            refine mNil ?_
            exact ⟨(k + 1), by omega, by omega, wk (sl := [(0, .d (.one (.row 4 n (qel K c)))), (1, .d (.one (.row 4 m (qel L d)))), (5, .own 23), (35, .d (.one (.v (.int .i64 (n : Int))))), (36, .d (.one (.v (.int .i64 ((i : Nat) : Int))))), (7, .d (.one (.v (.int .i64 ((i : Nat) : Int))))), (40, .d (.one (.v (.int .i64 (m : Int))))), (41, .d (.one (.v (.int .i64 (((k + 1) : Nat) : Int)))))]) (hp := [(23, .row 43 4 (n + m - 1) (qelv (kf R i (k + 1)) (cvkQ c d i (k + 1))))]) rfl ⟨hs rfl, hs rfl, hs rfl, hs rfl, hs rfl, hs rfl, hs rfl, hs' rfl (le_int (inc64 (by omega))), trivial⟩ ⟨ho' rfl (st_q (fun p _ _ => kf_le (by omega)) (by rw [kf_new]; omega) cvkQ_step (fun p _ hp => cvkQ_other hp)), trivial⟩ rfl⟩
          · skip
            refine cExit ?_
            refine tE ?_
            refine tE ?_
            refine bE ?_
            refine bN ?_
            refine tN ?_
            have hke : m = k := by have h0 := of_decide_eq_false hc3; omega
            subst hke
            refine cReg ?_
            refine mV hTT (.d (.one (.v (.int .i64 (IntKind.i64.wrap (((i : Nat) : Int) + 1)))))) rfl ?_
            refine mV hTT _ rfl ?_
            refine mNil ?_
            exact ⟨(i + 1), by omega, by omega, wk (sl := [(0, .d (.one (.row 4 n (qel K c)))), (1, .d (.one (.row 4 m (qel L d)))), (5, .own 23), (35, .d (.one (.v (.int .i64 (n : Int))))), (36, .d (.one (.v (.int .i64 (((i + 1) : Nat) : Int)))))]) (hp := [(23, .row 43 4 (n + m - 1) (qelv (fun _ => R (i + 1)) (cv c d (i + 1))))]) rfl ⟨hs rfl, hs rfl, hs rfl, hs rfl, hs' rfl (le_int (inc64 (by omega))), trivial⟩ ⟨ho' rfl (leo_qelv (fun p _ => kf_end (by omega)) (fun j _ => cvkQ_end zb)), trivial⟩ rfl⟩
        · skip
          refine cExit ?_
          refine tE ?_
          refine tE ?_
          refine bE ?_
          refine tN ?_
          refine cSeq ?_
          have hie2 : n = i := by have h0 := of_decide_eq_false hc2; omega
          subst hie2
          refine AW.wk (wkRow 23 rfl) ?_
          refine cView 5 (.d (.one (.row 4 (n + m - 1) (qel M (conv c d))))) rfl (le_one (row_qelv (fun p _ => hRM n (Nat.le_refl _)) (fun j _ => cv_convQ za))) ?_
          refine cReg ?_
          refine mV hTT _ rfl ?_
          refine mC0 (aQCut (K := M) (n := (n + m - 1)) (c := (conv c d)) (by omega)) rfl rfl rfl ?_
          refine mV hTT _ rfl ?_
          refine mNil ?_
          refine tN ?_
          refine cRet ?_
          exact rQ rfl (le_qrow (Nat.le_refl _) (dg_eq (fun j hj => conv_beyondQ za zb (by omega)) (fun j hj => conv_beyondQ za zb (by omega))) (fun _ _ => rfl))

end Go.Proofs.Ytnnpjkalkfoolaa
