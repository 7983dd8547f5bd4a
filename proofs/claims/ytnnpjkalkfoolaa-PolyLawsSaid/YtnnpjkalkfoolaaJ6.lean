/-
  THE LAWS PolyRoots and PolyLaws, by the machine.
-/
import Derived.Test.YtnnpjkalkfoolaaJ5
set_option linter.unusedVariables false
set_option linter.unusedSimpArgs false
namespace Go.Proofs.Ytnnpjkalkfoolaa
open Go.RowKit

set_option maxRecDepth 100000 in
set_option maxHeartbeats 4000000 in
theorem aTOf {n d : Int} (h1 : -9223372036854775808 ≤ n) (h2 : n ≤ 9223372036854775807) (k1 : -9223372036854775808 ≤ d) (k2 : d ≤ 9223372036854775807) (hd : d ≠ 0) : ACall Try.prog 55 [.one (.v (.int .i64 n)), .one (.v (.int .i64 d))] (.tup [.agg (tn 3 (Rat.divInt n d)), .one (.v (.int .i64 0))]) := by
  refine acallN hTT 13 [.cell 4 73, .tmp 5] Try.func55 rfl rfl rfl rfl rfl ?_
  refine cSeq ?_
  refine cReg ?_
  refine mN hTT (.box 73 ([.v (.bool false), .v (.slice none 0 0), .v (.bool false), .v (.slice none 0 0)])) rfl rfl rfl ?_
  refine mV hTT _ rfl ?_
  refine mNil ?_
  refine tN ?_
  refine cSeq ?_
  refine cReg ?_
  refine mV hTT _ rfl ?_
  refine mC0 (aOf (n := n) h1 h2) rfl rfl rfl ?_
  refine mV hTT _ rfl ?_
  refine mC0 (aOf (n := d) k1 k2) rfl rfl rfl ?_
  refine mC0 (aTMake (isz 2 n) (isz 2 d) hd (M := 3) (by decide) (by decide)) rfl rfl rfl ?_
  refine mV hTT _ rfl ?_
  refine mV hTT _ rfl ?_
  refine mS hTT 4 (.box 73 (tn 3 (Rat.divInt n d))) rfl ?_
  refine mV hTT _ rfl ?_
  refine mNil ?_
  refine tN ?_
  refine cRet ?_
  exact rQ rfl (AV.le.rfl)

set_option maxRecDepth 100000 in
set_option maxHeartbeats 4000000 in
theorem aPolyRoots {K L' n : Nat} {f : Nat → Bool × List Nat} {n0 d0 : Int} {s t : Bool} {xs ys : List Nat} (hK : K ≤ 9223372036854775807) (hn1 : -9223372036854775808 ≤ n0) (hn2 : n0 ≤ 9223372036854775807) (hd1 : -9223372036854775808 ≤ d0) (hd2 : d0 ≤ 9223372036854775807) (hL : L' ≤ 9223372036854775807) : ACall Try.prog 8 [.one (arow K n f), .one (.v (.int .i64 n0)), .one (.v (.int .i64 d0)), .agg (tan L' s xs t ys)] (.d (.one (.v (.bool true)))) := by
  refine acallN hTT 96 [.tmp 8] Try.func8 rfl rfl rfl rfl rfl ?_
  refine cSeq ?_
  refine cReg ?_
  refine mN hTT (.box 73 ([.v (.bool s), lr L' xs] ++ [.v (.bool t), lr L' ys])) rfl rfl rfl ?_
  refine mV hTT _ rfl ?_
  refine mNil ?_
  refine tN ?_
  refine cSeq ?_
  refine cReg ?_
  refine mV hTT _ rfl ?_
  refine mC0 (aCut (K := K) (n := n) (m := 6) (k := 2) (f := f) (M := 64) (by decide) (by decide) (by decide) (by omega)) rfl rfl rfl ?_
  refine mV hTT _ rfl ?_
  refine mV hTT _ rfl ?_
  refine mV hTT _ rfl ?_
  refine mV hTT _ rfl ?_
  refine mNil ?_
  refine tN ?_
  refine cSeq ?_
  refine cReg ?_
  refine mV hTT (.d (.agg ([.v (.bool s), lr L' xs] ++ [.v (.bool t), lr L' ys]))) rfl ?_
  refine mC0 (aKRat (K := L') (k := 1) (s := s) (t := t) (xs := xs) (ys := ys) (by omega) (by omega)) rfl rfl rfl ?_
  refine mS hTT 7 (.box 73 ([.v (.bool s), lr 1 (xs.take 1)] ++ [.v (.bool t), lr 1 (ys.take 1)])) rfl ?_
  refine mNil ?_
  refine tN ?_
  refine cSeq ?_
  refine cReg ?_
  refine mV hTT _ rfl ?_
  refine mC0 (aWithin (v := n0) (n := 41) (by decide) (by decide) hn1 hn2) rfl rfl rfl ?_
  refine mV hTT (.d (.one (.v (.int .i64 (IntKind.i64.wrap ((n0 % (41 : Int)) - 20)))))) rfl ?_
  refine mV hTT _ rfl ?_
  refine mC0 (aWithin (v := d0) (n := 9) (by decide) (by decide) hd1 hd2) rfl rfl rfl ?_
  refine mV hTT (.d (.one (.v (.int .i64 (IntKind.i64.wrap (1 + (d0 % (9 : Int)))))))) rfl ?_
  refine mV hTT _ rfl ?_
  refine mV hTT _ rfl ?_
  refine mNil ?_
  refine tN ?_
  refine cSeq ?_
  obtain ⟨x, hx⟩ : ∃ x : Int, x = n0 % 41 - 20 := ⟨_, rfl⟩
  obtain ⟨y, hyd⟩ : ∃ y : Int, y = 1 + d0 % 9 := ⟨_, rfl⟩
  have hx1 : -20 ≤ x ∧ x ≤ 20 := by omega
  have hy1 : 1 ≤ y ∧ y ≤ 9 := by omega
  have hy : y ≠ 0 := by omega
  refine cView 1 (.d (.one (.v (.int .i64 x)))) rfl (le_int ((wr64 (by omega) (by omega)).trans (by omega))) ?_
  refine cView 2 (.d (.one (.v (.int .i64 y)))) rfl (le_int ((wr64 (by omega) (by omega)).trans (by omega))) ?_
  have hdl : (dg (cfz (min n 6) (cutf 2 f)) (min n 6)) ≤ 6 := Nat.le_trans (dg_le _ _) (Nat.min_le_right _ _)
  have hll := dg_le (lst [-x, y]) 2
  have hdp := dg_le (conv (cfz (min n 6) (cutf 2 f)) (lst [-x, y])) ((min n 6) + (dg (lst [-x, y]) 2))
  have hdm := dg_le (mvZ (cfz (min n 6) (cutf 2 f)) x y (dg (cfz (min n 6) (cutf 2 f)) (min n 6)) (dg (cfz (min n 6) (cutf 2 f)) (min n 6))) ((dg (cfz (min n 6) (cutf 2 f)) (min n 6)) + 1)
  have hzp : ∀ i, dg (conv (cfz (min n 6) (cutf 2 f)) (lst [-x, y])) ((min n 6) + (dg (lst [-x, y]) 2)) ≤ i → (conv (cfz (min n 6) (cutf 2 f)) (lst [-x, y])) i = 0 := dg_z (conv_z0 cfz_z (dg_z lst2_z))
  have hzq : ∀ i, dg (conv (cfz (min n 6) (cutf 2 f)) (lst [-x, y])) (dg (conv (cfz (min n 6) (cutf 2 f)) (lst [-x, y])) ((min n 6) + (dg (lst [-x, y]) 2))) ≤ i → (conv (cfz (min n 6) (cutf 2 f)) (lst [-x, y])) i = 0 := dg_z hzp
  have hdp2 := dg_le (conv (cfz (min n 6) (cutf 2 f)) (lst [-x, y])) (dg (conv (cfz (min n 6) (cutf 2 f)) (lst [-x, y])) ((min n 6) + (dg (lst [-x, y]) 2)))
  have hzm : ∀ i, dg (mvZ (cfz (min n 6) (cutf 2 f)) x y (dg (cfz (min n 6) (cutf 2 f)) (min n 6)) (dg (cfz (min n 6) (cutf 2 f)) (min n 6))) (dg (mvZ (cfz (min n 6) (cutf 2 f)) x y (dg (cfz (min n 6) (cutf 2 f)) (min n 6)) (dg (cfz (min n 6) (cutf 2 f)) (min n 6))) ((dg (cfz (min n 6) (cutf 2 f)) (min n 6)) + 1)) ≤ i → (mvZ (cfz (min n 6) (cutf 2 f)) x y (dg (cfz (min n 6) (cutf 2 f)) (min n 6)) (dg (cfz (min n 6) (cutf 2 f)) (min n 6))) i = 0 := dg_z (dg_z fun j hj => mvZ_z _ j (by omega))
  have hza : ∀ i, (dg (cfz (min n 6) (cutf 2 f)) (min n 6)) ≤ i → (cfz (min n 6) (cutf 2 f)) i = 0 := dg_z cfz_z
  refine cReg ?_
  refine mV hTT _ rfl ?_
  refine mV hTT _ rfl ?_
  refine mC0 (aTOf (n := x) (d := y) (by omega) (by omega) (by omega) (by omega) hy) rfl rfl rfl ?_
  refine mV hTT _ rfl ?_
  refine mV hTT _ rfl ?_
  refine mV hTT _ rfl ?_
  refine mN hTT (.box 73 ([.v (.bool false), .v (.slice none 0 0), .v (.bool false), .v (.slice none 0 0)])) rfl rfl rfl ?_
  refine mS hTT 9 (.box 73 (tn 3 (Rat.divInt x y))) rfl ?_
  refine mV hTT _ rfl ?_
  refine mNil ?_
  refine tN ?_
  refine cSeq ?_
  refine cReg ?_
  refine mV hTT _ rfl ?_
  refine mV hTT (.d (.one (.v (.int .i64 (-x))))) (evi ((wr64 (by omega) (by omega)).trans (by omega))) ?_
  refine mV hTT _ rfl ?_
  refine mB hTT (.d (.one (.row 1 2 (fun i' j' => (([.v (.int .i64 (-x)), .v (.int .i64 y)])[i' * 1 + j']?).getD (.v undef))))) rfl ?_
  refine mC0 (aPOf (isi_lit (l := [-x, y]) (n := 2) rfl (fun i hi => match i, hi with | 0, _ => rfl | 1, _ => rfl)) (fun i hi => match i, hi with | 0, _ => (show -9223372036854775808 ≤ -x ∧ -x ≤ 9223372036854775807 by omega) | 1, _ => (show -9223372036854775808 ≤ y ∧ y ≤ 9223372036854775807 by omega)) (by omega)) rfl rfl rfl ?_
  refine mV hTT _ rfl ?_
  refine mNil ?_
  refine tN ?_
  refine cSeq ?_
  refine cReg ?_
  refine mV hTT _ rfl ?_
  refine mV hTT _ rfl ?_
  refine mC0 (aPMul (⟨⟨(cutf 2 f), fun _ _ _ h => h, (fun i hi => (show cfz (min n 6) (cutf 2 f) i = fzv (cutf 2 f) i from if_pos hi).symm)⟩, cfz_z⟩ : IsP (arow 2 (min n 6) (cutf 2 f)) 2 (min n 6) (cfz (min n 6) (cutf 2 f))) (isp (K := 2) (c := (lst [-x, y])) (dg_z lst2_z)) (M := 8005) (D := 8) (by omega) (by omega) (by decide) (by decide) (by decide)) rfl rfl rfl ?_
  refine mV hTT _ rfl ?_
  refine mNil ?_
  refine tN ?_
  refine cSeq ?_
  refine cSeq ?_
  refine cReg ?_
  refine mV hTT _ rfl ?_
  refine mV hTT (.d (.agg (tn 3 (Rat.divInt x y)))) rfl ?_
  refine mC0 (aPSign (isp (K := 8005) (c := (conv (cfz (min n 6) (cutf 2 f)) (lst [-x, y]))) (dg_z (conv_z0 cfz_z (dg_z lst2_z)))) (ist_tn 3 (Rat.divInt x y)) (D := 8) (T := 8018) (M := 72162) (by omega)) rfl rfl rfl ?_
  refine mV hTT (.d (.one (.v (.bool false)))) (evb (by rw [mkR_self, root_sgn hy cfz_z hzq]; rfl)) ?_
  refine mV hTT _ rfl ?_
  refine mV hTT _ rfl ?_
  refine mV hTT (.d (.agg (tn 3 (Rat.divInt x y)))) rfl ?_
  refine mC0 (aPVal (isp (K := 8005) (c := (conv (cfz (min n 6) (cutf 2 f)) (lst [-x, y]))) (dg_z (conv_z0 cfz_z (dg_z lst2_z)))) (ist_tn 3 (Rat.divInt x y)) (D := 8) (T := 8018) (M := 72162) (N := 72163) (by omega)) rfl rfl rfl ?_
  refine mV hTT (.d (.agg (zn 72163 (Rat.num (vlQ (rc (conv (cfz (min n 6) (cutf 2 f)) (lst [-x, y]))) (mkR (Rat.num (Rat.divInt x y)) (Rat.den (Rat.divInt x y) : Int)) (dg (conv (cfz (min n 6) (cutf 2 f)) (lst [-x, y])) (dg (conv (cfz (min n 6) (cutf 2 f)) (lst [-x, y])) ((min n 6) + (dg (lst [-x, y]) 2)))) (dg (conv (cfz (min n 6) (cutf 2 f)) (lst [-x, y])) (dg (conv (cfz (min n 6) (cutf 2 f)) (lst [-x, y])) ((min n 6) + (dg (lst [-x, y]) 2))))))))) rfl ?_
  refine mC0 (aZero (isn 72163 (Rat.num (vlQ (rc (conv (cfz (min n 6) (cutf 2 f)) (lst [-x, y]))) (mkR (Rat.num (Rat.divInt x y)) (Rat.den (Rat.divInt x y) : Int)) (dg (conv (cfz (min n 6) (cutf 2 f)) (lst [-x, y])) (dg (conv (cfz (min n 6) (cutf 2 f)) (lst [-x, y])) ((min n 6) + (dg (lst [-x, y]) 2)))) (dg (conv (cfz (min n 6) (cutf 2 f)) (lst [-x, y])) (dg (conv (cfz (min n 6) (cutf 2 f)) (lst [-x, y])) ((min n 6) + (dg (lst [-x, y]) 2)))))))) rfl rfl rfl ?_
  refine mV hTT (.d (.one (.v (.bool false)))) (evb (by rw [mkR_self, root_val hy cfz_z hzq]; rfl)) ?_
  refine mV hTT _ rfl ?_
  refine mNil ?_
  refine tN ?_
  refine cF rfl ?_
  refine cSkip ?_
  refine tN ?_
  refine cSeq ?_
  refine cReg ?_
  refine mV hTT _ rfl ?_
  refine mV hTT _ rfl ?_
  refine mC0 (aOf (n := x) (by omega) (by omega)) rfl rfl rfl ?_
  refine mV hTT _ rfl ?_
  refine mC0 (aOf (n := y) (by omega) (by omega)) rfl rfl rfl ?_
  refine mC0 (aPMove (⟨⟨(cutf 2 f), fun _ _ _ h => h, (fun i hi => (show cfz (min n 6) (cutf 2 f) i = fzv (cutf 2 f) i from if_pos hi).symm)⟩, cfz_z⟩ : IsP (arow 2 (min n 6) (cutf 2 f)) 2 (min n 6) (cfz (min n 6) (cutf 2 f))) (isz 2 x) (isz 2 y) (D := 6) (T := 9010) (M := 63070) hy (by omega)) rfl rfl rfl ?_
  refine mV hTT _ rfl ?_
  refine mV hTT _ rfl ?_
  refine mV hTT _ rfl ?_
  refine mV hTT _ rfl ?_
  refine mV hTT _ rfl ?_
  refine mNil ?_
  refine tN ?_
  refine cSeq ?_
  refine cReg ?_
  refine mV hTT _ rfl ?_
  refine mC0 (aPNorm (⟨⟨(cutf 2 f), fun _ _ _ h => h, (fun i hi => (show cfz (min n 6) (cutf 2 f) i = fzv (cutf 2 f) i from if_pos hi).symm)⟩, cfz_z⟩ : IsP (arow 2 (min n 6) (cutf 2 f)) 2 (min n 6) (cfz (min n 6) (cutf 2 f))) (by omega) (by decide)) rfl rfl rfl ?_
  refine mV hTT (.d (.one (.v (.int .i64 ((dg (cfz (min n 6) (cutf 2 f)) (min n 6) : Nat) : Int))))) rfl ?_
  refine mV hTT (.d (.one (.v (.int .i64 (((dg (cfz (min n 6) (cutf 2 f)) (min n 6)) : Int) - 1))))) (evi (wr64 (by omega) (by omega))) ?_
  refine mV hTT (.d (.one (.v (.int .i64 (((dg (cfz (min n 6) (cutf 2 f)) (min n 6)) - 1 : Nat) : Int))))) (evi (by rw [if_pos rfl]; split <;> omega)) ?_
  refine mV hTT _ rfl ?_
  refine mNil ?_
  refine tN ?_
  refine cSeq ?_
  refine cReg ?_
  refine mV hTT _ rfl ?_
  refine mV hTT (.d (.agg ([.v (.bool s), lr 1 (xs.take 1)] ++ [.v (.bool t), lr 1 (ys.take 1)]))) rfl ?_
  refine mC0 (aPVal (isp (K := 63070) (c := (mvZ (cfz (min n 6) (cutf 2 f)) x y (dg (cfz (min n 6) (cutf 2 f)) (min n 6)) (dg (cfz (min n 6) (cutf 2 f)) (min n 6)))) (dg_z fun j hj => mvZ_z _ j (by omega))) (⟨s, (xs.take 1), t, (ys.take 1), fun _ _ _ h => h, rfl, rfl⟩ : IsT ([.v (.bool s), lr 1 (xs.take 1)] ++ [.v (.bool t), lr 1 (ys.take 1)]) 1 (zv s (val (xs.take 1))) (zv t (val (ys.take 1)))) (D := 7) (T := 63081) (M := 504648) (N := 504649) (by omega)) rfl rfl rfl ?_
  refine mN hTT (.box 73 ([.v (.bool false), .v (.slice none 0 0), .v (.bool false), .v (.slice none 0 0)])) rfl rfl rfl ?_
  refine mS hTT 16 (.box 73 (tn 504649 (vlQ (rc (mvZ (cfz (min n 6) (cutf 2 f)) x y (dg (cfz (min n 6) (cutf 2 f)) (min n 6)) (dg (cfz (min n 6) (cutf 2 f)) (min n 6)))) (mkR (zv s (val (xs.take 1))) (zv t (val (ys.take 1)))) (dg (mvZ (cfz (min n 6) (cutf 2 f)) x y (dg (cfz (min n 6) (cutf 2 f)) (min n 6)) (dg (cfz (min n 6) (cutf 2 f)) (min n 6))) (dg (mvZ (cfz (min n 6) (cutf 2 f)) x y (dg (cfz (min n 6) (cutf 2 f)) (min n 6)) (dg (cfz (min n 6) (cutf 2 f)) (min n 6))) (dg (cfz (min n 6) (cutf 2 f)) (min n 6) + 1))) (dg (mvZ (cfz (min n 6) (cutf 2 f)) x y (dg (cfz (min n 6) (cutf 2 f)) (min n 6)) (dg (cfz (min n 6) (cutf 2 f)) (min n 6))) (dg (mvZ (cfz (min n 6) (cutf 2 f)) x y (dg (cfz (min n 6) (cutf 2 f)) (min n 6)) (dg (cfz (min n 6) (cutf 2 f)) (min n 6))) (dg (cfz (min n 6) (cutf 2 f)) (min n 6) + 1)))))) rfl ?_
  refine mNil ?_
  refine tN ?_
  refine cSeq ?_
  refine cDrawK hTT 12 (by kernel_rfl) (by kernel_rfl) (by kernel_rfl) ?_
  refine .cons (OpS.V _ rfl) ?_
  refine .cons (OpS.C0 (aOf (n := y) (by omega) (by omega)) rfl rfl rfl) ?_
  refine .cons (OpS.V _ rfl) ?_
  refine .cons (OpS.C0 (aPow (isz 2 y) (k := (((dg (cfz (min n 6) (cutf 2 f)) (min n 6)) - 1 : Nat) : Int)) (M := 14) (by omega) (by omega) (by omega) (by decide)) rfl rfl rfl) ?_
  refine .cons (OpS.C0 (aTInt (isz 14 (y ^ ((((dg (cfz (min n 6) (cutf 2 f)) (min n 6)) - 1 : Nat) : Int)).toNat)) (M := 14) (by decide) (by decide)) rfl rfl rfl) ?_
  refine .cons (OpS.V _ rfl) ?_
  refine .cons (OpS.V (.d (.agg ([.v (.bool s), lr 1 (xs.take 1)] ++ [.v (.bool t), lr 1 (ys.take 1)]))) rfl) ?_
  refine .cons (OpS.V (.d (.agg (tn 3 (Rat.divInt x y)))) rfl) ?_
  refine .cons (OpS.C0 (aTAdd (⟨s, (xs.take 1), t, (ys.take 1), fun _ _ _ h => h, rfl, rfl⟩ : IsT ([.v (.bool s), lr 1 (xs.take 1)] ++ [.v (.bool t), lr 1 (ys.take 1)]) 1 (zv s (val (xs.take 1))) (zv t (val (ys.take 1)))) (ist_tn 3 (Rat.divInt x y)) (M := 9) (by decide) (by decide)) rfl rfl rfl) ?_
  refine .cons (OpS.C0 (aPVal (⟨⟨(cutf 2 f), fun _ _ _ h => h, (fun i hi => (show cfz (min n 6) (cutf 2 f) i = fzv (cutf 2 f) i from if_pos hi).symm)⟩, cfz_z⟩ : IsP (arow 2 (min n 6) (cutf 2 f)) 2 (min n 6) (cfz (min n 6) (cutf 2 f))) (ist_tn 9 ((mkR (zv s (val (xs.take 1))) (zv t (val (ys.take 1)))) + (mkR (Rat.num (Rat.divInt x y)) (Rat.den (Rat.divInt x y) : Int)))) (D := 6) (T := 27) (M := 189) (N := 190) (by omega)) rfl rfl rfl) ?_
  refine .cons (OpS.C0 (aTMul (ist_tn 14 (((y ^ ((((dg (cfz (min n 6) (cutf 2 f)) (min n 6)) - 1 : Nat) : Int)).toNat) : Int) : Rat)) (ist_tn 190 (vlQ (rc (cfz (min n 6) (cutf 2 f))) (mkR (Rat.num ((mkR (zv s (val (xs.take 1))) (zv t (val (ys.take 1)))) + (mkR (Rat.num (Rat.divInt x y)) (Rat.den (Rat.divInt x y) : Int)))) (Rat.den ((mkR (zv s (val (xs.take 1))) (zv t (val (ys.take 1)))) + (mkR (Rat.num (Rat.divInt x y)) (Rat.den (Rat.divInt x y) : Int))) : Int)) (dg (cfz (min n 6) (cutf 2 f)) (min n 6)) (dg (cfz (min n 6) (cutf 2 f)) (min n 6)))) (M := 208) (by decide) (by decide)) rfl rfl rfl) ?_
  refine .cons (OpS.N (.box 73 ([.v (.bool false), .v (.slice none 0 0), .v (.bool false), .v (.slice none 0 0)])) rfl 17 rfl rfl) ?_
  refine .nil ?_
  refine mS hTT 17 (.box 73 (tn 208 ((mkR (Rat.num (((y ^ ((((dg (cfz (min n 6) (cutf 2 f)) (min n 6)) - 1 : Nat) : Int)).toNat) : Int) : Rat)) (Rat.den (((y ^ ((((dg (cfz (min n 6) (cutf 2 f)) (min n 6)) - 1 : Nat) : Int)).toNat) : Int) : Rat) : Int)) * (mkR (Rat.num (vlQ (rc (cfz (min n 6) (cutf 2 f))) (mkR (Rat.num ((mkR (zv s (val (xs.take 1))) (zv t (val (ys.take 1)))) + (mkR (Rat.num (Rat.divInt x y)) (Rat.den (Rat.divInt x y) : Int)))) (Rat.den ((mkR (zv s (val (xs.take 1))) (zv t (val (ys.take 1)))) + (mkR (Rat.num (Rat.divInt x y)) (Rat.den (Rat.divInt x y) : Int))) : Int)) (dg (cfz (min n 6) (cutf 2 f)) (min n 6)) (dg (cfz (min n 6) (cutf 2 f)) (min n 6)))) (Rat.den (vlQ (rc (cfz (min n 6) (cutf 2 f))) (mkR (Rat.num ((mkR (zv s (val (xs.take 1))) (zv t (val (ys.take 1)))) + (mkR (Rat.num (Rat.divInt x y)) (Rat.den (Rat.divInt x y) : Int)))) (Rat.den ((mkR (zv s (val (xs.take 1))) (zv t (val (ys.take 1)))) + (mkR (Rat.num (Rat.divInt x y)) (Rat.den (Rat.divInt x y) : Int))) : Int)) (dg (cfz (min n 6) (cutf 2 f)) (min n 6)) (dg (cfz (min n 6) (cutf 2 f)) (min n 6))) : Int))))) rfl ?_
  refine mNil ?_
  refine tN ?_
  refine cSeq ?_
  refine cReg ?_
  refine mV hTT _ rfl ?_
  refine mV hTT (.d (.one (.v (.bool true)))) rfl ?_
  refine mV hTT _ rfl ?_
  refine mV hTT (.d (.agg (tn 504649 (vlQ (rc (mvZ (cfz (min n 6) (cutf 2 f)) x y (dg (cfz (min n 6) (cutf 2 f)) (min n 6)) (dg (cfz (min n 6) (cutf 2 f)) (min n 6)))) (mkR (zv s (val (xs.take 1))) (zv t (val (ys.take 1)))) (dg (mvZ (cfz (min n 6) (cutf 2 f)) x y (dg (cfz (min n 6) (cutf 2 f)) (min n 6)) (dg (cfz (min n 6) (cutf 2 f)) (min n 6))) (dg (mvZ (cfz (min n 6) (cutf 2 f)) x y (dg (cfz (min n 6) (cutf 2 f)) (min n 6)) (dg (cfz (min n 6) (cutf 2 f)) (min n 6))) (dg (cfz (min n 6) (cutf 2 f)) (min n 6) + 1))) (dg (mvZ (cfz (min n 6) (cutf 2 f)) x y (dg (cfz (min n 6) (cutf 2 f)) (min n 6)) (dg (cfz (min n 6) (cutf 2 f)) (min n 6))) (dg (mvZ (cfz (min n 6) (cutf 2 f)) x y (dg (cfz (min n 6) (cutf 2 f)) (min n 6)) (dg (cfz (min n 6) (cutf 2 f)) (min n 6))) (dg (cfz (min n 6) (cutf 2 f)) (min n 6) + 1))))))) rfl ?_
  refine mV hTT (.d (.agg (tn 208 ((mkR (Rat.num (((y ^ ((((dg (cfz (min n 6) (cutf 2 f)) (min n 6)) - 1 : Nat) : Int)).toNat) : Int) : Rat)) (Rat.den (((y ^ ((((dg (cfz (min n 6) (cutf 2 f)) (min n 6)) - 1 : Nat) : Int)).toNat) : Int) : Rat) : Int)) * (mkR (Rat.num (vlQ (rc (cfz (min n 6) (cutf 2 f))) (mkR (Rat.num ((mkR (zv s (val (xs.take 1))) (zv t (val (ys.take 1)))) + (mkR (Rat.num (Rat.divInt x y)) (Rat.den (Rat.divInt x y) : Int)))) (Rat.den ((mkR (zv s (val (xs.take 1))) (zv t (val (ys.take 1)))) + (mkR (Rat.num (Rat.divInt x y)) (Rat.den (Rat.divInt x y) : Int))) : Int)) (dg (cfz (min n 6) (cutf 2 f)) (min n 6)) (dg (cfz (min n 6) (cutf 2 f)) (min n 6)))) (Rat.den (vlQ (rc (cfz (min n 6) (cutf 2 f))) (mkR (Rat.num ((mkR (zv s (val (xs.take 1))) (zv t (val (ys.take 1)))) + (mkR (Rat.num (Rat.divInt x y)) (Rat.den (Rat.divInt x y) : Int)))) (Rat.den ((mkR (zv s (val (xs.take 1))) (zv t (val (ys.take 1)))) + (mkR (Rat.num (Rat.divInt x y)) (Rat.den (Rat.divInt x y) : Int))) : Int)) (dg (cfz (min n 6) (cutf 2 f)) (min n 6)) (dg (cfz (min n 6) (cutf 2 f)) (min n 6))) : Int)))))) rfl ?_
  refine mC0 (aTCmp (ist_tn 504649 (vlQ (rc (mvZ (cfz (min n 6) (cutf 2 f)) x y (dg (cfz (min n 6) (cutf 2 f)) (min n 6)) (dg (cfz (min n 6) (cutf 2 f)) (min n 6)))) (mkR (zv s (val (xs.take 1))) (zv t (val (ys.take 1)))) (dg (mvZ (cfz (min n 6) (cutf 2 f)) x y (dg (cfz (min n 6) (cutf 2 f)) (min n 6)) (dg (cfz (min n 6) (cutf 2 f)) (min n 6))) (dg (mvZ (cfz (min n 6) (cutf 2 f)) x y (dg (cfz (min n 6) (cutf 2 f)) (min n 6)) (dg (cfz (min n 6) (cutf 2 f)) (min n 6))) (dg (cfz (min n 6) (cutf 2 f)) (min n 6) + 1))) (dg (mvZ (cfz (min n 6) (cutf 2 f)) x y (dg (cfz (min n 6) (cutf 2 f)) (min n 6)) (dg (cfz (min n 6) (cutf 2 f)) (min n 6))) (dg (mvZ (cfz (min n 6) (cutf 2 f)) x y (dg (cfz (min n 6) (cutf 2 f)) (min n 6)) (dg (cfz (min n 6) (cutf 2 f)) (min n 6))) (dg (cfz (min n 6) (cutf 2 f)) (min n 6) + 1))))) (ist_tn 208 ((mkR (Rat.num (((y ^ ((((dg (cfz (min n 6) (cutf 2 f)) (min n 6)) - 1 : Nat) : Int)).toNat) : Int) : Rat)) (Rat.den (((y ^ ((((dg (cfz (min n 6) (cutf 2 f)) (min n 6)) - 1 : Nat) : Int)).toNat) : Int) : Rat) : Int)) * (mkR (Rat.num (vlQ (rc (cfz (min n 6) (cutf 2 f))) (mkR (Rat.num ((mkR (zv s (val (xs.take 1))) (zv t (val (ys.take 1)))) + (mkR (Rat.num (Rat.divInt x y)) (Rat.den (Rat.divInt x y) : Int)))) (Rat.den ((mkR (zv s (val (xs.take 1))) (zv t (val (ys.take 1)))) + (mkR (Rat.num (Rat.divInt x y)) (Rat.den (Rat.divInt x y) : Int))) : Int)) (dg (cfz (min n 6) (cutf 2 f)) (min n 6)) (dg (cfz (min n 6) (cutf 2 f)) (min n 6)))) (Rat.den (vlQ (rc (cfz (min n 6) (cutf 2 f))) (mkR (Rat.num ((mkR (zv s (val (xs.take 1))) (zv t (val (ys.take 1)))) + (mkR (Rat.num (Rat.divInt x y)) (Rat.den (Rat.divInt x y) : Int)))) (Rat.den ((mkR (zv s (val (xs.take 1))) (zv t (val (ys.take 1)))) + (mkR (Rat.num (Rat.divInt x y)) (Rat.den (Rat.divInt x y) : Int))) : Int)) (dg (cfz (min n 6) (cutf 2 f)) (min n 6)) (dg (cfz (min n 6) (cutf 2 f)) (min n 6))) : Int)))) (by decide) (by decide)) rfl rfl rfl ?_
  refine mView 90 (.d (.one (.v (.int .i64 0)))) rfl (le_int (cmpQ_eq (by simp only [mkR_self]; exact roots_mv hy hza hzm))) ?_
  refine mV hTT (.d (.one (.v (.bool true)))) rfl ?_
  refine mV hTT _ rfl ?_
  refine mV hTT _ rfl ?_
  refine mC0 (aWakes) rfl rfl rfl ?_
  refine mV hTT _ rfl ?_
  refine mV hTT _ rfl ?_
  refine mNil ?_
  refine tN ?_
  refine cRet ?_
  exact rQ rfl (AV.le.rfl)

set_option maxRecDepth 100000 in
set_option maxHeartbeats 4000000 in
theorem aPolyLaws {K K' L : Nat} {s t : Bool} {xs ys : List Nat} {na nb : Nat} {fa fb : Nat → Bool × List Nat} (hK : K ≤ 9223372036854775807) (hK' : K' ≤ 9223372036854775807) (hL : L ≤ 9223372036854775807) : ACall Try.prog 9 [.one (arow K na fa), .one (arow K' nb fb), .agg (tan L s xs t ys)] (.d (.one (.v (.bool true)))) := by
  refine acallN hTT 105 [.tmp 6] Try.func9 rfl rfl rfl rfl rfl ?_
  refine cSeq ?_
  refine cReg ?_
  refine mN hTT (.box 73 ([.v (.bool s), lr L xs] ++ [.v (.bool t), lr L ys])) rfl rfl rfl ?_
  refine mV hTT _ rfl ?_
  refine mNil ?_
  refine tN ?_
  refine cSeq ?_
  refine cReg ?_
  refine mV hTT _ rfl ?_
  refine mC0 (aCut (K := K) (n := na) (m := 7) (k := 2) (f := fa) (M := 64) (by decide) (by decide) (by decide) (by omega)) rfl rfl rfl ?_
  refine mV hTT _ rfl ?_
  refine mV hTT _ rfl ?_
  refine mV hTT _ rfl ?_
  refine mV hTT _ rfl ?_
  refine mV hTT _ rfl ?_
  refine mNil ?_
  refine tN ?_
  refine cSeq ?_
  refine cReg ?_
  refine mV hTT _ rfl ?_
  refine mC0 (aCut (K := K') (n := nb) (m := 7) (k := 2) (f := fb) (M := 64) (by decide) (by decide) (by decide) (by omega)) rfl rfl rfl ?_
  refine mV hTT _ rfl ?_
  refine mV hTT _ rfl ?_
  refine mV hTT _ rfl ?_
  refine mV hTT _ rfl ?_
  refine mNil ?_
  refine tN ?_
  refine cSeq ?_
  refine cReg ?_
  refine mV hTT (.d (.agg ([.v (.bool s), lr L xs] ++ [.v (.bool t), lr L ys]))) rfl ?_
  refine mC0 (aKRat (K := L) (k := 2) (s := s) (t := t) (xs := xs) (ys := ys) (by omega) (by omega)) rfl rfl rfl ?_
  refine mS hTT 5 (.box 73 ([.v (.bool s), lr 2 (xs.take 2)] ++ [.v (.bool t), lr 2 (ys.take 2)])) rfl ?_
  refine mNil ?_
  refine tN ?_
  refine cSeq ?_
  have d1 := dg_le (cfz (min na 7) (cutf 2 fa)) (min na 7)
  have d2 := dg_le (cfz (min nb 7) (cutf 2 fb)) (min nb 7)
  have d3 := dg_le (conv (cfz (min na 7) (cutf 2 fa)) (cfz (min nb 7) (cutf 2 fb))) ((min na 7) + (min nb 7))
  have d4 := dg_le (fder (conv (cfz (min na 7) (cutf 2 fa)) (cfz (min nb 7) (cutf 2 fb)))) (dg (conv (cfz (min na 7) (cutf 2 fa)) (cfz (min nb 7) (cutf 2 fb))) ((min na 7) + (min nb 7)) - 1)
  have d5 := dg_le (fder (cfz (min na 7) (cutf 2 fa))) ((min na 7) - 1)
  have d6 := dg_le (fder (cfz (min nb 7) (cutf 2 fb))) ((min nb 7) - 1)
  have d7 := dg_le (conv (fder (cfz (min na 7) (cutf 2 fa))) (cfz (min nb 7) (cutf 2 fb))) (dg (fder (cfz (min na 7) (cutf 2 fa))) ((min na 7) - 1) + (min nb 7))
  have d8 := dg_le (conv (cfz (min na 7) (cutf 2 fa)) (fder (cfz (min nb 7) (cutf 2 fb)))) ((min na 7) + dg (fder (cfz (min nb 7) (cutf 2 fb))) ((min nb 7) - 1))
  have d9 := dg_le (fadd (conv (fder (cfz (min na 7) (cutf 2 fa))) (cfz (min nb 7) (cutf 2 fb))) (conv (cfz (min na 7) (cutf 2 fa)) (fder (cfz (min nb 7) (cutf 2 fb))))) (max (dg (conv (fder (cfz (min na 7) (cutf 2 fa))) (cfz (min nb 7) (cutf 2 fb))) (dg (fder (cfz (min na 7) (cutf 2 fa))) ((min na 7) - 1) + (min nb 7))) (dg (conv (cfz (min na 7) (cutf 2 fa)) (fder (cfz (min nb 7) (cutf 2 fb)))) ((min na 7) + dg (fder (cfz (min nb 7) (cutf 2 fb))) ((min nb 7) - 1))))
  have d10 := dg_le (fadd (cfz (min na 7) (cutf 2 fa)) (cfz (min nb 7) (cutf 2 fb))) (max (min na 7) (min nb 7))
  have d11 := dg_le (fsub (fadd (cfz (min na 7) (cutf 2 fa)) (cfz (min nb 7) (cutf 2 fb))) (cfz (min nb 7) (cutf 2 fb))) (max (dg (fadd (cfz (min na 7) (cutf 2 fa)) (cfz (min nb 7) (cutf 2 fb))) (max (min na 7) (min nb 7))) (min nb 7))
  have d12 := dg_le (conv (cfz (min na 7) (cutf 2 fa)) (cfz (min nb 7) (cutf 2 fb))) (dg (conv (cfz (min na 7) (cutf 2 fa)) (cfz (min nb 7) (cutf 2 fb))) ((min na 7) + (min nb 7)))
  have hzp : ∀ i, dg (conv (cfz (min na 7) (cutf 2 fa)) (cfz (min nb 7) (cutf 2 fb))) (dg (conv (cfz (min na 7) (cutf 2 fa)) (cfz (min nb 7) (cutf 2 fb))) ((min na 7) + (min nb 7))) ≤ i → (conv (cfz (min na 7) (cutf 2 fa)) (cfz (min nb 7) (cutf 2 fb))) i = 0 := dg_z (dg_z (conv_z0 cfz_z cfz_z))
  refine cReg ?_
  refine mV hTT _ rfl ?_
  refine mV hTT _ rfl ?_
  refine mC0 (aPMul (⟨⟨(cutf 2 fa), fun _ _ _ h => h, (fun i hi => (show cfz (min na 7) (cutf 2 fa) i = fzv (cutf 2 fa) i from if_pos hi).symm)⟩, cfz_z⟩ : IsP (arow 2 (min na 7) (cutf 2 fa)) 2 (min na 7) (cfz (min na 7) (cutf 2 fa))) (⟨⟨(cutf 2 fb), fun _ _ _ h => h, (fun i hi => (show cfz (min nb 7) (cutf 2 fb) i = fzv (cutf 2 fb) i from if_pos hi).symm)⟩, cfz_z⟩ : IsP (arow 2 (min nb 7) (cutf 2 fb)) 2 (min nb 7) (cfz (min nb 7) (cutf 2 fb))) (M := 14005) (D := 14) (by omega) (by omega) (by decide) (by decide) (by decide)) rfl rfl rfl ?_
  refine mV hTT _ rfl ?_
  refine mNil ?_
  refine tN ?_
  refine cSeq ?_
  refine cSeq ?_
  refine cDrawK hTT 36 (by kernel_rfl) (by kernel_rfl) (by kernel_rfl) ?_
  refine .cons (OpS.V _ rfl) ?_
  refine .cons (OpS.V (.d (.agg ([.v (.bool s), lr 2 (xs.take 2)] ++ [.v (.bool t), lr 2 (ys.take 2)]))) rfl) ?_
  refine .cons (OpS.C0 (aPSign (isp (K := 14005) (c := (conv (cfz (min na 7) (cutf 2 fa)) (cfz (min nb 7) (cutf 2 fb)))) (dg_z (conv_z0 cfz_z cfz_z))) (⟨s, (xs.take 2), t, (ys.take 2), fun _ _ _ h => h, rfl, rfl⟩ : IsT ([.v (.bool s), lr 2 (xs.take 2)] ++ [.v (.bool t), lr 2 (ys.take 2)]) 2 (zv s (val (xs.take 2))) (zv t (val (ys.take 2)))) (D := 14) (T := 14016) (M := 210240) (by omega)) rfl rfl rfl) ?_
  refine .cons (OpS.V _ rfl) ?_
  refine .cons (OpS.V (.d (.agg ([.v (.bool s), lr 2 (xs.take 2)] ++ [.v (.bool t), lr 2 (ys.take 2)]))) rfl) ?_
  refine .cons (OpS.C0 (aPSign (⟨⟨(cutf 2 fa), fun _ _ _ h => h, (fun i hi => (show cfz (min na 7) (cutf 2 fa) i = fzv (cutf 2 fa) i from if_pos hi).symm)⟩, cfz_z⟩ : IsP (arow 2 (min na 7) (cutf 2 fa)) 2 (min na 7) (cfz (min na 7) (cutf 2 fa))) (⟨s, (xs.take 2), t, (ys.take 2), fun _ _ _ h => h, rfl, rfl⟩ : IsT ([.v (.bool s), lr 2 (xs.take 2)] ++ [.v (.bool t), lr 2 (ys.take 2)]) 2 (zv s (val (xs.take 2))) (zv t (val (ys.take 2)))) (D := 7) (T := 13) (M := 104) (by omega)) rfl rfl rfl) ?_
  refine .cons (OpS.V _ rfl) ?_
  refine .cons (OpS.V (.d (.agg ([.v (.bool s), lr 2 (xs.take 2)] ++ [.v (.bool t), lr 2 (ys.take 2)]))) rfl) ?_
  refine .cons (OpS.C0 (aPSign (⟨⟨(cutf 2 fb), fun _ _ _ h => h, (fun i hi => (show cfz (min nb 7) (cutf 2 fb) i = fzv (cutf 2 fb) i from if_pos hi).symm)⟩, cfz_z⟩ : IsP (arow 2 (min nb 7) (cutf 2 fb)) 2 (min nb 7) (cfz (min nb 7) (cutf 2 fb))) (⟨s, (xs.take 2), t, (ys.take 2), fun _ _ _ h => h, rfl, rfl⟩ : IsT ([.v (.bool s), lr 2 (xs.take 2)] ++ [.v (.bool t), lr 2 (ys.take 2)]) 2 (zv s (val (xs.take 2))) (zv t (val (ys.take 2)))) (D := 7) (T := 13) (M := 104) (by omega)) rfl rfl rfl) ?_
  refine .cons (OpS.V (.d (.one (.v (.int .i64 (IntKind.i64.wrap ((sgn (vlZ (cfz (min na 7) (cutf 2 fa)) (mkR (zv s (val (xs.take 2))) (zv t (val (ys.take 2)))).num ((mkR (zv s (val (xs.take 2))) (zv t (val (ys.take 2)))).den : Int) (dg (cfz (min na 7) (cutf 2 fa)) (min na 7)) (dg (cfz (min na 7) (cutf 2 fa)) (min na 7)))) * (sgn (vlZ (cfz (min nb 7) (cutf 2 fb)) (mkR (zv s (val (xs.take 2))) (zv t (val (ys.take 2)))).num ((mkR (zv s (val (xs.take 2))) (zv t (val (ys.take 2)))).den : Int) (dg (cfz (min nb 7) (cutf 2 fb)) (min nb 7)) (dg (cfz (min nb 7) (cutf 2 fb)) (min nb 7)))))))))) rfl) ?_
  refine .cons (OpS.V (.d (.one (.v (.bool false)))) (evb (by rw [sgn_wr, vl_prod (dg_z cfz_z) (dg_z cfz_z) hzp]; exact bne_self_eq_false _))) ?_
  refine .cons (OpS.V _ rfl) ?_
  refine .cons (OpS.V _ rfl) ?_
  refine .cons (OpS.C0 (aPDer (isp (K := 14005) (c := (conv (cfz (min na 7) (cutf 2 fa)) (cfz (min nb 7) (cutf 2 fb)))) (dg_z (conv_z0 cfz_z cfz_z))) (M := 14007) (by decide) (by omega) (by decide)) rfl rfl rfl) ?_
  refine .cons (OpS.V _ rfl) ?_
  refine .cons (OpS.C0 (aPDer (⟨⟨(cutf 2 fa), fun _ _ _ h => h, (fun i hi => (show cfz (min na 7) (cutf 2 fa) i = fzv (cutf 2 fa) i from if_pos hi).symm)⟩, cfz_z⟩ : IsP (arow 2 (min na 7) (cutf 2 fa)) 2 (min na 7) (cfz (min na 7) (cutf 2 fa))) (M := 4) (by decide) (by omega) (by decide)) rfl rfl rfl) ?_
  refine .cons (OpS.V _ rfl) ?_
  refine .cons (OpS.C0 (aPMul (isp (K := 4) (c := (fder (cfz (min na 7) (cutf 2 fa)))) (dg_z (fder_z cfz_z))) (⟨⟨(cutf 2 fb), fun _ _ _ h => h, (fun i hi => (show cfz (min nb 7) (cutf 2 fb) i = fzv (cutf 2 fb) i from if_pos hi).symm)⟩, cfz_z⟩ : IsP (arow 2 (min nb 7) (cutf 2 fb)) 2 (min nb 7) (cfz (min nb 7) (cutf 2 fb))) (M := 13007) (D := 13) (by omega) (by omega) (by decide) (by decide) (by decide)) rfl rfl rfl) ?_
  refine .cons (OpS.V _ rfl) ?_
  refine .cons (OpS.V _ rfl) ?_
  refine .cons (OpS.C0 (aPDer (⟨⟨(cutf 2 fb), fun _ _ _ h => h, (fun i hi => (show cfz (min nb 7) (cutf 2 fb) i = fzv (cutf 2 fb) i from if_pos hi).symm)⟩, cfz_z⟩ : IsP (arow 2 (min nb 7) (cutf 2 fb)) 2 (min nb 7) (cfz (min nb 7) (cutf 2 fb))) (M := 4) (by decide) (by omega) (by decide)) rfl rfl rfl) ?_
  refine .cons (OpS.C0 (aPMul (⟨⟨(cutf 2 fa), fun _ _ _ h => h, (fun i hi => (show cfz (min na 7) (cutf 2 fa) i = fzv (cutf 2 fa) i from if_pos hi).symm)⟩, cfz_z⟩ : IsP (arow 2 (min na 7) (cutf 2 fa)) 2 (min na 7) (cfz (min na 7) (cutf 2 fa))) (isp (K := 4) (c := (fder (cfz (min nb 7) (cutf 2 fb)))) (dg_z (fder_z cfz_z))) (M := 13007) (D := 13) (by omega) (by omega) (by decide) (by decide) (by decide)) rfl rfl rfl) ?_
  refine .cons (OpS.C0 (aPAdd (isp (K := 13007) (c := (conv (fder (cfz (min na 7) (cutf 2 fa))) (cfz (min nb 7) (cutf 2 fb)))) (dg_z (conv_z0 (dg_z (fder_z cfz_z)) cfz_z))) (isp (K := 13007) (c := (conv (cfz (min na 7) (cutf 2 fa)) (fder (cfz (min nb 7) (cutf 2 fb))))) (dg_z (conv_z0 cfz_z (dg_z (fder_z cfz_z))))) (M := 13008) (by omega) (by omega) (by decide)) rfl rfl rfl) ?_
  refine .cons (OpS.C0 (aPSame (isp (K := 14007) (c := (fder (conv (cfz (min na 7) (cutf 2 fa)) (cfz (min nb 7) (cutf 2 fb))))) (dg_z (fder_z (dg_z (conv_z0 cfz_z cfz_z))))) (isp (K := 13008) (c := (fadd (conv (fder (cfz (min na 7) (cutf 2 fa))) (cfz (min nb 7) (cutf 2 fb))) (conv (cfz (min na 7) (cutf 2 fa)) (fder (cfz (min nb 7) (cutf 2 fb)))))) (dg_z (fadd_z (dg_z (conv_z0 (dg_z (fder_z cfz_z)) cfz_z)) (dg_z (conv_z0 cfz_z (dg_z (fder_z cfz_z))))))) (fun i => der_conv _ _ i) (by omega) (by omega) (by decide) (by decide)) rfl rfl rfl) ?_
  refine .cons (OpS.V (.d (.one (.v (.bool false)))) rfl) ?_
  refine .cons (OpS.V _ rfl) ?_
  refine .cons (OpS.V _ rfl) ?_
  refine .cons (OpS.V _ rfl) ?_
  refine .cons (OpS.V _ rfl) ?_
  refine .cons (OpS.C0 (aPAdd (⟨⟨(cutf 2 fa), fun _ _ _ h => h, (fun i hi => (show cfz (min na 7) (cutf 2 fa) i = fzv (cutf 2 fa) i from if_pos hi).symm)⟩, cfz_z⟩ : IsP (arow 2 (min na 7) (cutf 2 fa)) 2 (min na 7) (cfz (min na 7) (cutf 2 fa))) (⟨⟨(cutf 2 fb), fun _ _ _ h => h, (fun i hi => (show cfz (min nb 7) (cutf 2 fb) i = fzv (cutf 2 fb) i from if_pos hi).symm)⟩, cfz_z⟩ : IsP (arow 2 (min nb 7) (cutf 2 fb)) 2 (min nb 7) (cfz (min nb 7) (cutf 2 fb))) (M := 3) (by omega) (by omega) (by decide)) rfl rfl rfl) ?_
  refine .cons (OpS.V _ rfl) ?_
  refine .cons (OpS.C0 (aPSub (isp (K := 3) (c := (fadd (cfz (min na 7) (cutf 2 fa)) (cfz (min nb 7) (cutf 2 fb)))) (dg_z (fadd_z cfz_z cfz_z))) (⟨⟨(cutf 2 fb), fun _ _ _ h => h, (fun i hi => (show cfz (min nb 7) (cutf 2 fb) i = fzv (cutf 2 fb) i from if_pos hi).symm)⟩, cfz_z⟩ : IsP (arow 2 (min nb 7) (cutf 2 fb)) 2 (min nb 7) (cfz (min nb 7) (cutf 2 fb))) (M := 4) (by omega) (by omega) (by decide)) rfl rfl rfl) ?_
  refine .cons (OpS.V _ rfl) ?_
  refine .cons (OpS.C0 (aPSame (isp (K := 4) (c := (fsub (fadd (cfz (min na 7) (cutf 2 fa)) (cfz (min nb 7) (cutf 2 fb))) (cfz (min nb 7) (cutf 2 fb)))) (dg_z (fsub_z (dg_z (fadd_z cfz_z cfz_z)) cfz_z))) (⟨⟨(cutf 2 fa), fun _ _ _ h => h, (fun i hi => (show cfz (min na 7) (cutf 2 fa) i = fzv (cutf 2 fa) i from if_pos hi).symm)⟩, cfz_z⟩ : IsP (arow 2 (min na 7) (cutf 2 fa)) 2 (min na 7) (cfz (min na 7) (cutf 2 fa))) (fun i => by show ((cfz (min na 7) (cutf 2 fa)) i + (cfz (min nb 7) (cutf 2 fb)) i) - (cfz (min nb 7) (cutf 2 fb)) i = (cfz (min na 7) (cutf 2 fa)) i; omega) (by omega) (by omega) (by decide) (by decide)) rfl rfl rfl) ?_
  refine .cons (OpS.V (.d (.one (.v (.bool false)))) rfl) ?_
  refine .cons (OpS.V _ rfl) ?_
  refine .nil ?_
  refine mNil ?_
  refine tN ?_
  refine cF rfl ?_
  refine cSkip ?_
  refine tN ?_
  refine cSeq ?_
  have e1 := dg_le (mvZ (cfz (min na 7) (cutf 2 fa)) 3 2 (dg (cfz (min na 7) (cutf 2 fa)) (min na 7)) (dg (cfz (min na 7) (cutf 2 fa)) (min na 7))) ((dg (cfz (min na 7) (cutf 2 fa)) (min na 7)) + 1)
  have e2 := dg_le (mvZ (cfz (min na 7) (cutf 2 fa)) 3 2 (dg (cfz (min na 7) (cutf 2 fa)) (min na 7)) (dg (cfz (min na 7) (cutf 2 fa)) (min na 7))) (dg (mvZ (cfz (min na 7) (cutf 2 fa)) 3 2 (dg (cfz (min na 7) (cutf 2 fa)) (min na 7)) (dg (cfz (min na 7) (cutf 2 fa)) (min na 7))) ((dg (cfz (min na 7) (cutf 2 fa)) (min na 7)) + 1))
  have hm2 : (dg (mvZ (cfz (min na 7) (cutf 2 fa)) 3 2 (dg (cfz (min na 7) (cutf 2 fa)) (min na 7)) (dg (cfz (min na 7) (cutf 2 fa)) (min na 7))) (dg (mvZ (cfz (min na 7) (cutf 2 fa)) 3 2 (dg (cfz (min na 7) (cutf 2 fa)) (min na 7)) (dg (cfz (min na 7) (cutf 2 fa)) (min na 7))) ((dg (cfz (min na 7) (cutf 2 fa)) (min na 7)) + 1))) = (dg (cfz (min na 7) (cutf 2 fa)) (min na 7)) := mv_dg (by decide) dg_or (dg_z fun j hj => mvZ_z _ j (by omega))
  have e3 := dg_le (mvZ (mvZ (cfz (min na 7) (cutf 2 fa)) 3 2 (dg (cfz (min na 7) (cutf 2 fa)) (min na 7)) (dg (cfz (min na 7) (cutf 2 fa)) (min na 7))) (-3) 2 (dg (mvZ (cfz (min na 7) (cutf 2 fa)) 3 2 (dg (cfz (min na 7) (cutf 2 fa)) (min na 7)) (dg (cfz (min na 7) (cutf 2 fa)) (min na 7))) (dg (mvZ (cfz (min na 7) (cutf 2 fa)) 3 2 (dg (cfz (min na 7) (cutf 2 fa)) (min na 7)) (dg (cfz (min na 7) (cutf 2 fa)) (min na 7))) ((dg (cfz (min na 7) (cutf 2 fa)) (min na 7)) + 1))) (dg (mvZ (cfz (min na 7) (cutf 2 fa)) 3 2 (dg (cfz (min na 7) (cutf 2 fa)) (min na 7)) (dg (cfz (min na 7) (cutf 2 fa)) (min na 7))) (dg (mvZ (cfz (min na 7) (cutf 2 fa)) 3 2 (dg (cfz (min na 7) (cutf 2 fa)) (min na 7)) (dg (cfz (min na 7) (cutf 2 fa)) (min na 7))) ((dg (cfz (min na 7) (cutf 2 fa)) (min na 7)) + 1)))) ((dg (mvZ (cfz (min na 7) (cutf 2 fa)) 3 2 (dg (cfz (min na 7) (cutf 2 fa)) (min na 7)) (dg (cfz (min na 7) (cutf 2 fa)) (min na 7))) (dg (mvZ (cfz (min na 7) (cutf 2 fa)) 3 2 (dg (cfz (min na 7) (cutf 2 fa)) (min na 7)) (dg (cfz (min na 7) (cutf 2 fa)) (min na 7))) ((dg (cfz (min na 7) (cutf 2 fa)) (min na 7)) + 1))) + 1)
  have e4 := dg_le (fscl (cfz (min na 7) (cutf 2 fa)) (2 ^ (((2 * ((dg (cfz (min na 7) (cutf 2 fa)) (min na 7)) - 1) : Nat) : Int)).toNat)) (min na 7)
  refine cReg ?_
  refine mC0 (aOf (n := 3) (by decide) (by decide)) rfl rfl rfl ?_
  refine mC0 (aOf (n := 2) (by decide) (by decide)) rfl rfl rfl ?_
  refine mN hTT (.box 26 ([.v (.bool false), .v (.slice none 0 0)])) rfl rfl rfl ?_
  refine mN hTT (.box 26 ([.v (.bool false), .v (.slice none 0 0)])) rfl rfl rfl ?_
  refine mS hTT 9 (.box 26 (zn 2 3)) rfl ?_
  refine mS hTT 10 (.box 26 (zn 2 2)) rfl ?_
  refine mNil ?_
  refine tN ?_
  refine cSeq ?_
  refine cReg ?_
  refine mV hTT _ rfl ?_
  refine mV hTT (.d (.agg (zn 2 3))) rfl ?_
  refine mV hTT (.d (.agg (zn 2 2))) rfl ?_
  refine mC0 (aPMove (⟨⟨(cutf 2 fa), fun _ _ _ h => h, (fun i hi => (show cfz (min na 7) (cutf 2 fa) i = fzv (cutf 2 fa) i from if_pos hi).symm)⟩, cfz_z⟩ : IsP (arow 2 (min na 7) (cutf 2 fa)) 2 (min na 7) (cfz (min na 7) (cutf 2 fa))) (isz 2 3) (isz 2 2) (D := 7) (T := 10010) (M := 80080) (by decide) (by omega)) rfl rfl rfl ?_
  refine mV hTT _ rfl ?_
  refine mV hTT _ rfl ?_
  refine mV hTT _ rfl ?_
  refine mV hTT _ rfl ?_
  refine mV hTT _ rfl ?_
  refine mNil ?_
  refine tN ?_
  refine cSeq ?_
  refine cDrawK hTT 10 (by kernel_rfl) (by kernel_rfl) (by kernel_rfl) ?_
  refine .cons (OpS.V _ rfl) ?_
  refine .cons (OpS.V (.d (.agg (zn 2 3))) rfl) ?_
  refine .cons (OpS.C0 (aNeg (isz 2 3) (by decide)) rfl rfl rfl) ?_
  refine .cons (OpS.V (.d (.agg (zn 2 2))) rfl) ?_
  refine .cons (OpS.C0 (aPMove (isp (K := 80080) (c := (mvZ (cfz (min na 7) (cutf 2 fa)) 3 2 (dg (cfz (min na 7) (cutf 2 fa)) (min na 7)) (dg (cfz (min na 7) (cutf 2 fa)) (min na 7)))) (dg_z fun j hj => mvZ_z _ j (by omega))) (isz 2 (-3)) (isz 2 2) (D := 8) (T := 91088) (M := 819792) (by decide) (by omega)) rfl rfl rfl) ?_
  refine .cons (OpS.V _ rfl) ?_
  refine .cons (OpS.V _ rfl) ?_
  refine .cons (OpS.V _ rfl) ?_
  refine .cons (OpS.V _ rfl) ?_
  refine .cons (OpS.V _ rfl) ?_
  refine .nil ?_
  refine mNil ?_
  refine tN ?_
  refine cSeq ?_
  refine cReg ?_
  refine mV hTT _ rfl ?_
  refine mV hTT (.d (.one (.v (.bool true)))) rfl ?_
  refine mV hTT _ rfl ?_
  refine mV hTT _ rfl ?_
  refine mV hTT (.d (.one (.v (.bool true)))) rfl ?_
  refine mV hTT _ rfl ?_
  refine mV hTT _ rfl ?_
  refine mV hTT _ rfl ?_
  refine mV hTT _ rfl ?_
  refine mV hTT (.d (.agg (zn 2 2))) rfl ?_
  refine mV hTT _ rfl ?_
  refine mV hTT (.d (.one (.v (.int .i64 ((dg (cfz (min na 7) (cutf 2 fa)) (min na 7) : Nat) : Int))))) rfl ?_
  refine mV hTT (.d (.one (.v (.int .i64 (((dg (cfz (min na 7) (cutf 2 fa)) (min na 7)) : Int) - 1))))) (evi (wr64 (by omega) (by omega))) ?_
  refine mV hTT (.d (.one (.v (.int .i64 (((dg (cfz (min na 7) (cutf 2 fa)) (min na 7)) - 1 : Nat) : Int))))) (evi (by rw [if_pos rfl]; split <;> omega)) ?_
  refine mV hTT (.d (.one (.v (.int .i64 ((2 * ((dg (cfz (min na 7) (cutf 2 fa)) (min na 7)) - 1) : Nat) : Int))))) (evi ((wr64 (by omega) (by omega)).trans (by omega))) ?_
  refine mC0 (aPow (isz 2 2) (k := ((2 * ((dg (cfz (min na 7) (cutf 2 fa)) (min na 7)) - 1) : Nat) : Int)) (M := 26) (by omega) (by omega) (by omega) (by decide)) rfl rfl rfl ?_
  refine mC0 (aPScale (⟨⟨(cutf 2 fa), fun _ _ _ h => h, (fun i hi => (show cfz (min na 7) (cutf 2 fa) i = fzv (cutf 2 fa) i from if_pos hi).symm)⟩, cfz_z⟩ : IsP (arow 2 (min na 7) (cutf 2 fa)) 2 (min na 7) (cfz (min na 7) (cutf 2 fa))) (isz 26 (2 ^ (((2 * ((dg (cfz (min na 7) (cutf 2 fa)) (min na 7)) - 1) : Nat) : Int)).toNat)) (M := 28) (by decide) (by omega) (by decide)) rfl rfl rfl ?_
  refine mC0 (aPSame (isp (K := 819792) (c := (mvZ (mvZ (cfz (min na 7) (cutf 2 fa)) 3 2 (dg (cfz (min na 7) (cutf 2 fa)) (min na 7)) (dg (cfz (min na 7) (cutf 2 fa)) (min na 7))) (-3) 2 (dg (mvZ (cfz (min na 7) (cutf 2 fa)) 3 2 (dg (cfz (min na 7) (cutf 2 fa)) (min na 7)) (dg (cfz (min na 7) (cutf 2 fa)) (min na 7))) (dg (mvZ (cfz (min na 7) (cutf 2 fa)) 3 2 (dg (cfz (min na 7) (cutf 2 fa)) (min na 7)) (dg (cfz (min na 7) (cutf 2 fa)) (min na 7))) (dg (cfz (min na 7) (cutf 2 fa)) (min na 7) + 1))) (dg (mvZ (cfz (min na 7) (cutf 2 fa)) 3 2 (dg (cfz (min na 7) (cutf 2 fa)) (min na 7)) (dg (cfz (min na 7) (cutf 2 fa)) (min na 7))) (dg (mvZ (cfz (min na 7) (cutf 2 fa)) 3 2 (dg (cfz (min na 7) (cutf 2 fa)) (min na 7)) (dg (cfz (min na 7) (cutf 2 fa)) (min na 7))) (dg (cfz (min na 7) (cutf 2 fa)) (min na 7) + 1))))) (dg_z fun j hj => mvZ_z _ j (by omega))) (isp (K := 28) (c := (fscl (cfz (min na 7) (cutf 2 fa)) (2 ^ (((2 * ((dg (cfz (min na 7) (cutf 2 fa)) (min na 7)) - 1) : Nat) : Int)).toNat))) (dg_z (fscl_z cfz_z))) (fun i => by rw [hm2, Int.toNat_natCast]; exact mv_back (by decide) (dg_z cfz_z) i) (by omega) (by omega) (by decide) (by decide)) rfl rfl rfl ?_
  refine mV hTT _ rfl ?_
  refine mV hTT _ rfl ?_
  refine mC0 (aWakes) rfl rfl rfl ?_
  refine mV hTT _ rfl ?_
  refine mV hTT _ rfl ?_
  refine mNil ?_
  refine tN ?_
  refine cRet ?_
  exact rQ rfl (AV.le.rfl)

end Go.Proofs.Ytnnpjkalkfoolaa

