/-
  THE LAWS of chapter 2, by the machine: of, is, wakes; WholeGcds.
-/
import Derived.Test.YtkcagkcphobmfaaMu
set_option linter.unusedVariables false
set_option linter.unusedSimpArgs false
namespace Go.Proofs.Ytkcagkcphobmfaa
open Go.RowKit

set_option maxRecDepth 100000 in
set_option maxHeartbeats 4000000 in
theorem aKInt {K k : Nat} {s : Bool} {xs : List Nat} (hk : k ≤ 1000000 := by decide) (hK : K ≤ 9223372036854775807 := by decide) : ACall Try.prog 52 [.agg [.v (.bool s), lr K xs], .one (.v (.int .i64 (k : Int)))] (.d (.agg [.v (.bool s), lr k (xs.take k)])) := by
  refine acallN hTT 12 [.cell 4 24] Try.func52 rfl rfl rfl rfl rfl ?_
  refine cSeq ?_
  refine cReg ?_
  refine mN hTT (.box 24 ([.v (.bool s), lr K xs])) rfl rfl rfl ?_
  refine mN hTT (.box 24 ([.v (.bool false), .v (.slice none 0 0)])) rfl rfl rfl ?_
  refine mNil ?_
  refine tN ?_
  refine cSeq ?_
  refine cDrawK hTT 7 (by kernel_rfl) (by kernel_rfl) ?_
  refine .cons (OpS.V (.ptr 2 0) rfl) ?_
  refine .cons (OpS.V (.d (.one (.v (.bool s)))) rfl) ?_
  refine .cons (OpS.V (.ptr 2 1) rfl) ?_
  refine .cons (OpS.V (.d (.one (lr K xs))) rfl) ?_
  refine .cons (OpS.V _ rfl) ?_
  refine .cons (OpS.C0 (aRow (K := K) (k := k) (xs := xs) (by omega) (by omega)) rfl rfl rfl) ?_
  refine .cons (OpS.V (.d (.agg ([.v (.bool s), lr k (xs.take k)]))) rfl) ?_
  refine .nil ?_
  refine mS hTT 4 (.box 24 ([.v (.bool s), lr k (xs.take k)])) rfl ?_
  refine mNil ?_
  refine tN ?_
  refine cRet ?_
  exact rQ rfl (AV.le.rfl)

set_option maxRecDepth 100000 in
set_option maxHeartbeats 4000000 in
theorem aOf2 {K k : Nat} {s : Bool} {xs : List Nat} (hk : k ≤ 100000 := by decide) (hK : K ≤ 9223372036854775807 := by decide) : ACall Try.prog 14 [.agg [.v (.bool s), lr K xs], .one (.v (.int .i64 (k : Int)))] (.tup [.agg [.v (.bool s), lr k (xs.take k)], .agg (rn (3 * k) (zv s (val (xs.take k))))]) := by
  refine acallN hTT 12 [.cell 4 24, .cell 5 28] Try.func14 rfl rfl rfl rfl rfl ?_
  refine cSeq ?_
  refine cReg ?_
  refine mN hTT (.box 24 ([.v (.bool s), lr K xs])) rfl rfl rfl ?_
  refine mN hTT (.box 24 ([.v (.bool false), .v (.slice none 0 0)])) rfl rfl rfl ?_
  refine mN hTT (.box 28 ([.v (.slice none 0 0), .v (.bool false)])) rfl rfl rfl ?_
  refine mNil ?_
  refine tN ?_
  refine cSeq ?_
  refine cReg ?_
  refine mV hTT (.d (.agg ([.v (.bool s), lr K xs]))) rfl ?_
  refine mV hTT _ rfl ?_
  refine mC0 (aKInt (K := K) (k := k) (s := s) (xs := xs) (by omega) (by omega)) rfl rfl rfl ?_
  refine mS hTT 2 (.box 24 ([.v (.bool s), lr k (xs.take k)])) rfl ?_
  refine mNil ?_
  refine tN ?_
  refine cSeq ?_
  refine cDrawK hTT 3 (by kernel_rfl) (by kernel_rfl) ?_
  refine .cons (OpS.V (.d (.agg ([.v (.bool s), lr k (xs.take k)]))) rfl) ?_
  refine .cons (OpS.V (.d (.agg ([.v (.bool s), lr k (xs.take k)]))) rfl) ?_
  refine .cons (OpS.C0 (aRFrom (iszr k s (xs.take k)) (M := (3 * k)) (by omega) (by omega)) rfl rfl rfl) ?_
  refine .nil ?_
  refine mS hTT 4 (.box 24 ([.v (.bool s), lr k (xs.take k)])) rfl ?_
  refine mS hTT 5 (.box 28 (rn (3 * k) (zv s (val (xs.take k))))) rfl ?_
  refine mNil ?_
  refine tN ?_
  refine cRet ?_
  exact rQ rfl (le_tup (dl DV.same (dl (dle (le_rn (by omega) rfl)) dl0)))

set_option maxRecDepth 100000 in
set_option maxHeartbeats 4000000 in
theorem aIs2 {a b : List Lf} {K L : Nat} {x : Int} (ha : IsR a K x) (hb : IsN b L x) (hK : K ≤ 1000000000 := by decide) (hL : L ≤ 1000000000 := by decide) : ACall Try.prog 20 [.agg a, .agg b] (.d (.one (.v (.bool true)))) := by
  refine ACall.le (dl (DV.g ha) (dl (DV.g hb) dl0)) AV.le.rfl ?_
  refine acallN hTT 8 [.tmp 4] Try.func20 rfl rfl rfl rfl rfl ?_
  refine cSeq ?_
  refine cReg ?_
  refine mN hTT (.box 28 (rn K x)) rfl rfl rfl ?_
  refine mN hTT (.box 24 (zn L x)) rfl rfl rfl ?_
  refine mV hTT _ rfl ?_
  refine mNil ?_
  refine tN ?_
  refine cSeq ?_
  refine cReg ?_
  refine mV hTT (.d (.agg (rn K x))) rfl ?_
  refine mV hTT (.d (.agg (zn L x))) rfl ?_
  refine mC0 (aRSame (isr K x) (isn L x) (by omega) (by omega)) rfl rfl rfl ?_
  refine mV hTT _ rfl ?_
  refine mNil ?_
  refine tN ?_
  refine cRet ?_
  exact rQ rfl (AV.le.rfl)

set_option maxRecDepth 100000 in
set_option maxHeartbeats 4000000 in
theorem aWakes : ACall Try.prog 18 [] (.d (.one (.v (.bool true)))) := by
  refine acallN hTT 23 [.tmp 0] Try.func18 rfl rfl rfl rfl rfl ?_
  refine cSeq ?_
  refine cReg ?_
  refine mV hTT _ rfl ?_
  refine mNil ?_
  refine tN ?_
  refine cSeq ?_
  refine cReg ?_
  refine mC0 (aOf (n := (-7)) (by decide) (by decide)) rfl rfl rfl ?_
  refine mC0 (aOf (n := 2) (by decide) (by decide)) rfl rfl rfl ?_
  refine mC0 (aDivMod (isz 2 (-7)) (isz 2 2) (by decide) (M := 3) (by decide) (by decide) (by decide)) rfl rfl rfl ?_
  refine mV hTT _ rfl ?_
  refine mV hTT _ rfl ?_
  refine mV hTT _ rfl ?_
  refine mV hTT _ rfl ?_
  refine mN hTT (.box 24 ([.v (.bool false), .v (.slice none 0 0)])) rfl rfl rfl ?_
  refine mN hTT (.box 24 ([.v (.bool false), .v (.slice none 0 0)])) rfl rfl rfl ?_
  refine mS hTT 1 (.box 24 (zn 3 ((-7) / 2))) rfl ?_
  refine mS hTT 2 (.box 24 (zn 2 ((-7) % 2))) rfl ?_
  refine mV hTT _ rfl ?_
  refine mNil ?_
  refine tN ?_
  refine cSeq ?_
  refine cDrawK hTT 13 (by kernel_rfl) (by kernel_rfl) ?_
  refine .cons (OpS.V _ rfl) ?_
  refine .cons (OpS.V (.d (.one (.v (.bool true)))) rfl) ?_
  refine .cons (OpS.V _ rfl) ?_
  refine .cons (OpS.C0 (aROf (n := (-4)) (by decide) (by decide)) rfl rfl rfl) ?_
  refine .cons (OpS.V (.d (.agg (zn 3 ((-7) / 2)))) rfl) ?_
  refine .cons (OpS.C0 (aIs2 (IsR.eq (isr 64 (-4)) (by decide)) (isn 3 ((-7) / 2)) (by decide) (by decide)) rfl rfl rfl) ?_
  refine .cons (OpS.V _ rfl) ?_
  refine .cons (OpS.V _ rfl) ?_
  refine .cons (OpS.C0 (aROf (n := 1) (by decide) (by decide)) rfl rfl rfl) ?_
  refine .cons (OpS.V (.d (.agg (zn 2 ((-7) % 2)))) rfl) ?_
  refine .cons (OpS.C0 (aIs2 (IsR.eq (isr 64 1) (by decide)) (isn 2 ((-7) % 2)) (by decide) (by decide)) rfl rfl rfl) ?_
  refine .cons (OpS.V _ rfl) ?_
  refine .cons (OpS.V _ rfl) ?_
  refine .nil ?_
  refine mNil ?_
  refine tN ?_
  refine cRet ?_
  exact rQ rfl (AV.le.rfl)

theorem gcdN_congr {c d : Nat → Int} : ∀ {n : Nat}, (∀ i, i < n → c i = d i) → gcdN c n = gcdN d n
  | 0, _ => rfl
  | n + 1, h => by show Nat.gcd (gcdN c n) _ = Nat.gcd (gcdN d n) _; rw [gcdN_congr (fun i hi => h i (by omega)), h n (by omega)]
set_option maxRecDepth 100000 in
set_option maxHeartbeats 4000000 in
theorem aWholeGcds {K n K1 : Nat} {f : Nat → Bool × List Nat} {s1 : Bool} {xs1 : List Nat} (hK : K ≤ 9223372036854775807) (hK1 : K1 ≤ 9223372036854775807) : ACall Try.prog 5 [.one (arow K n f), .agg [.v (.bool s1), lr K1 xs1]] (.d (.one (.v (.bool true)))) := by
  refine acallN hTT 59 [.tmp 4] Try.func5 rfl rfl rfl rfl rfl ?_
  refine cSeq ?_
  refine cReg ?_
  refine mN hTT (.box 24 ([.v (.bool s1), lr K1 xs1])) rfl rfl rfl ?_
  refine mV hTT _ rfl ?_
  refine mNil ?_
  refine tN ?_
  refine cSeq ?_
  refine cReg ?_
  refine mV hTT (.d (.agg ([.v (.bool s1), lr K1 xs1]))) rfl ?_
  refine mC0 (aOf2 (K := K1) (k := 3) (s := s1) (xs := xs1) (by decide) (by omega)) rfl rfl rfl ?_
  refine mV hTT _ rfl ?_
  refine mV hTT _ rfl ?_
  refine mV hTT _ rfl ?_
  refine mN hTT (.box 28 ([.v (.slice none 0 0), .v (.bool false)])) rfl rfl rfl ?_
  refine mS hTT 3 (.box 24 ([.v (.bool s1), lr 3 (xs1.take 3)])) rfl ?_
  refine mS hTT 5 (.box 28 (rn 9 (zv s1 (val (xs1.take 3))))) rfl ?_
  refine mNil ?_
  refine tN ?_
  refine cSeq ?_
  refine cReg ?_
  refine mV hTT _ rfl ?_
  refine mNil ?_
  refine tN ?_
  refine cSeq ?_
  refine cReg ?_
  refine mC0 (aROf (n := 0) (by decide) (by decide)) rfl rfl rfl ?_
  refine mN hTT (.box 28 ([.v (.slice none 0 0), .v (.bool false)])) rfl rfl rfl ?_
  refine mS hTT 7 (.box 28 (rn 64 0)) rfl ?_
  refine mNil ?_
  refine tN ?_
  refine cSeq ?_
  refine cSeq ?_
  refine AW.wk (wkNil 6 6 24 2 (fun _ _ => .v undef) rfl rfl) ?_
  refine cReg ?_
  refine mV hTT _ rfl ?_
  refine mNil ?_
  refine tN ?_
  refine cBlock ?_
  refine cLoop (ι := Nat) (fun (i : Nat) => ⟨59, [(0, .d (.one (.row 2 n (ael K f)))), (3, .ptr 3 0), (5, .ptr 5 0), (6, .own 6), (7, .ptr 7 0), (8, .d (.one (.v (.int .i64 ((i : Nat) : Int)))))], [(3, .box 24 ([.v (.bool s1), lr 3 (xs1.take 3)])), (5, .box 28 (rn 9 (zv s1 (val (xs1.take 3))))), (7, .box 28 (rn 64 ((gcdN (fun p => zv (f p).1 (val ((f p).2.take 4)) * (zv s1 (val (xs1.take 3)))) i : Nat) : Int))), (6, .row 24 2 i (zel 21 (fun p => zv (f p).1 (val ((f p).2.take 4)) * (zv s1 (val (xs1.take 3))))))]⟩) (fun (i : Nat) => i ≤ 5) (fun (i : Nat) => 5 - i) 0 (Nat.zero_le _) (wk (sl := [(0, .d (.one (.row 2 n (ael K f)))), (3, .ptr 3 0), (5, .ptr 5 0), (6, .own 6), (7, .ptr 7 0), (8, .d (.one (.v (.int .i64 ((0 : Nat) : Int)))))]) (hp := [(3, .box 24 ([.v (.bool s1), lr 3 (xs1.take 3)])), (5, .box 28 (rn 9 (zv s1 (val (xs1.take 3))))), (7, .box 28 (rn 64 ((gcdN (fun p => zv (f p).1 (val ((f p).2.take 4)) * (zv s1 (val (xs1.take 3)))) 0 : Nat) : Int))), (6, .row 24 2 0 (zel 21 (fun p => zv (f p).1 (val ((f p).2.take 4)) * (zv s1 (val (xs1.take 3))))))]) rfl ⟨hs rfl, hs rfl, hs rfl, hs rfl, hs rfl, hs rfl, trivial⟩ ⟨ho rfl, ho rfl, ho' rfl (leo_rn (by decide) rfl), ho' rfl (leo_row0), trivial⟩ rfl) ?_
  rintro i hI
  have hi : i ≤ 5 := hI
  show AW Try.prog _ _ ⟨59, [(0, .d (.one (.row 2 n (ael K f)))), (3, .ptr 3 0), (5, .ptr 5 0), (6, .own 6), (7, .ptr 7 0), (8, .d (.one (.v (.int .i64 ((i : Nat) : Int)))))], [(3, .box 24 ([.v (.bool s1), lr 3 (xs1.take 3)])), (5, .box 28 (rn 9 (zv s1 (val (xs1.take 3))))), (7, .box 28 (rn 64 ((gcdN (fun p => zv (f p).1 (val ((f p).2.take 4)) * (zv s1 (val (xs1.take 3)))) i : Nat) : Int))), (6, .row 24 2 i (zel 21 (fun p => zv (f p).1 (val ((f p).2.take 4)) * (zv s1 (val (xs1.take 3))))))]⟩
  refine cSeq ?_
  refine cSeq ?_
  by_cases hin : i < n
  · skip
    refine cReg ?_
    refine mV hTT _ rfl ?_
    refine mV hTT _ rfl ?_
    refine mV hTT (.d (.one (.v (.int .i64 (n : Int))))) rfl ?_
    refine mV hTT (.d (.one (.v (.bool true)))) (evb (decide_eq_true (by omega))) ?_
    refine mV hTT _ rfl ?_
    refine mV hTT _ rfl ?_
    refine mV hTT (.d (.one (.v (.bool (decide (((i : Nat) : Int) < 5)))))) rfl ?_
    refine mV hTT _ rfl ?_
    refine mNil ?_
    refine tN ?_
    refine cCond rfl (fun hc1 => ?_) (fun hc1 => ?_)
    · skip
      refine cSkip ?_
      refine tN ?_
      refine cSeq ?_
      refine cBlock ?_
      refine cSeq ?_
      have hi5 : i < 5 := by have h0 := of_decide_eq_true hc1; omega
      refine cReg ?_
      refine mV hTT _ rfl ?_
      refine mV hTT _ rfl ?_
      refine mV hTT (.d (.one (.at 2 ((ael K f) i)))) (ixR (el := (ael K f)) (z := ((i : Nat) : Int)) (n := n) rfl rfl rfl rfl rfl rfl (by omega) (by omega)) ?_
      refine mV hTT (.d (.agg ([.v (.bool ((f i).1)), lr K ((f i).2)]))) rfl ?_
      refine mC0 (aOf2 (K := K) (k := 4) (s := (f i).1) (xs := (f i).2) (by decide) (by omega)) rfl rfl rfl ?_
      refine mV hTT _ rfl ?_
      refine mV hTT _ rfl ?_
      refine mV hTT _ rfl ?_
      refine mN hTT (.box 24 ([.v (.bool false), .v (.slice none 0 0)])) rfl rfl rfl ?_
      refine mN hTT (.box 28 ([.v (.slice none 0 0), .v (.bool false)])) rfl rfl rfl ?_
      refine mS hTT 9 (.box 24 ([.v (.bool ((f i).1)), lr 4 (((f i).2).take 4)])) rfl ?_
      refine mS hTT 10 (.box 28 (rn 12 (zv (f i).1 (val (((f i).2).take 4))))) rfl ?_
      refine mNil ?_
      refine tN ?_
      refine cSeq ?_
      refine cReg ?_
      refine mV hTT (.d (.agg (rn 12 (zv (f i).1 (val (((f i).2).take 4)))))) rfl ?_
      refine mV hTT (.d (.agg (rn 9 (zv s1 (val (xs1.take 3)))))) rfl ?_
      refine mC0 (aRMul (isr 12 (zv (f i).1 (val (((f i).2).take 4)))) (isr 9 (zv s1 (val (xs1.take 3)))) (M := 21) (by decide) (by decide) (by decide)) rfl rfl rfl ?_
      refine mS hTT 10 (.box 28 (rn 21 ((zv (f i).1 (val (((f i).2).take 4))) * (zv s1 (val (xs1.take 3)))))) rfl ?_
      refine mNil ?_
      refine tN ?_
      refine cSeq ?_
      refine cReg ?_
      refine mV hTT _ rfl ?_
      refine mV hTT (.d (.agg (rn 21 ((zv (f i).1 (val (((f i).2).take 4))) * (zv s1 (val (xs1.take 3))))))) rfl ?_
      refine mC0 (aRTo (isr 21 ((zv (f i).1 (val (((f i).2).take 4))) * (zv s1 (val (xs1.take 3))))) (by decide)) rfl rfl rfl ?_
      refine mB hTT (.d (.one (.row 2 1 (fun i' j' => ((zn 21 ((zv (f i).1 (val (((f i).2).take 4))) * (zv s1 (val (xs1.take 3)))))[i' * 2 + j']?).getD (.v undef))))) rfl ?_
      refine mA hTT (id := 6) (n := i) (m := 1) (el := (zel 21 (fun p => zv (f p).1 (val ((f p).2.take 4)) * (zv s1 (val (xs1.take 3)))))) (el2 := (fun i' j' => ((zn 21 ((zv (f i).1 (val (((f i).2).take 4))) * (zv s1 (val (xs1.take 3)))))[i' * 2 + j']?).getD (.v undef))) rfl rfl rfl (by show (i + 1) * 32 ≤ 140737488355328; omega) (by omega) rfl rfl rfl rfl rfl rfl rfl rfl rfl rfl ?_
      refine mV hTT _ rfl ?_
      refine mNil ?_
      refine tN ?_
      refine cReg ?_
      refine mV hTT (.d (.agg (rn 64 ((gcdN (fun p => zv (f p).1 (val ((f p).2.take 4)) * (zv s1 (val (xs1.take 3)))) i : Nat) : Int)))) rfl ?_
      refine mV hTT (.d (.agg (rn 21 ((zv (f i).1 (val (((f i).2).take 4))) * (zv s1 (val (xs1.take 3))))))) rfl ?_
      refine mC0 (aRGcd (isr 64 ((gcdN (fun p => zv (f p).1 (val ((f p).2.take 4)) * (zv s1 (val (xs1.take 3)))) i : Nat) : Int)) (isr 21 ((zv (f i).1 (val (((f i).2).take 4))) * (zv s1 (val (xs1.take 3))))) (M := 64) (by decide) (by decide)) rfl rfl rfl ?_
      refine mS hTT 7 (.box 28 (rn 64 ((Nat.gcd (Int.natAbs ((gcdN (fun p => zv (f p).1 (val ((f p).2.take 4)) * (zv s1 (val (xs1.take 3)))) i : Nat) : Int)) (Int.natAbs ((zv (f i).1 (val (((f i).2).take 4))) * (zv s1 (val (xs1.take 3))))) : Nat) : Int))) rfl ?_
      refine mNil ?_
      refine bN ?_
      refine tN ?_
      refine cReg ?_
      refine mV hTT _ rfl ?_
      refine mV hTT (.d (.one (.v (.int .i64 (IntKind.i64.wrap (((i : Nat) : Int) + 1)))))) rfl ?_
      refine mV hTT _ rfl ?_
      refine mNil ?_
      exact ⟨(i + 1), by omega, by omega, wk (sl := [(0, .d (.one (.row 2 n (ael K f)))), (3, .ptr 3 0), (5, .ptr 5 0), (6, .own 6), (7, .ptr 7 0), (8, .d (.one (.v (.int .i64 (((i + 1) : Nat) : Int)))))]) (hp := [(3, .box 24 ([.v (.bool s1), lr 3 (xs1.take 3)])), (5, .box 28 (rn 9 (zv s1 (val (xs1.take 3))))), (7, .box 28 (rn 64 ((gcdN (fun p => zv (f p).1 (val ((f p).2.take 4)) * (zv s1 (val (xs1.take 3)))) (i + 1) : Nat) : Int))), (6, .row 24 2 (i + 1) (zel 21 (fun p => zv (f p).1 (val ((f p).2.take 4)) * (zv s1 (val (xs1.take 3))))))]) rfl ⟨hs rfl, hs rfl, hs rfl, hs rfl, hs rfl, hs' rfl (le_int (inc64 (by omega))), trivial⟩ ⟨ho rfl, ho rfl, ho' rfl (leo_rn (by decide) (by rw [Int.natAbs_natCast]; rfl)), ho' rfl (app_z rfl (Nat.le_refl _) (Nat.le_refl _) rfl (fun _ _ => rfl)), trivial⟩ rfl⟩
    · skip
      refine cExit ?_
      refine tE ?_
      refine tE ?_
      refine bE ?_
      refine tN ?_
      refine cSeq ?_
      refine AW.wk (wkRow 6 rfl) ?_
      refine cView 6 (.d (.one (.row 2 i (zel 21 (fun p => if p < i then (fun p => zv (f p).1 (val ((f p).2.take 4)) * (zv s1 (val (xs1.take 3)))) p else 0))))) rfl (le_one (prow_le (Nat.le_refl _) (fun j hj => (if_pos hj).symm))) ?_
      refine cDrawK hTT 14 (by kernel_rfl) (by kernel_rfl) ?_
      refine .cons (OpS.V (.ptr 3 1) rfl) ?_
      refine .cons (OpS.V (.d (.one (lr 3 (xs1.take 3)))) rfl) ?_
      refine .cons (OpS.V (.d (.one (.v (.int .i64 ((xs1.take 3).length : Int))))) rfl) ?_
      refine .cons (OpS.V (.d (.one (.v (.bool true)))) (evb (decide_eq_true (by have h0 := List.length_take_le 3 xs1; omega)))) ?_
      refine .cons (OpS.V _ rfl) ?_
      refine .cons (OpS.V (.d (.agg (rn 64 ((gcdN (fun p => zv (f p).1 (val ((f p).2.take 4)) * (zv s1 (val (xs1.take 3)))) i : Nat) : Int)))) rfl) ?_
      refine .cons (OpS.V _ rfl) ?_
      refine .cons (OpS.C0 (aGcd (isp (K := 21) (c := (fun p => if p < i then (fun p => zv (f p).1 (val ((f p).2.take 4)) * (zv s1 (val (xs1.take 3)))) p else 0)) (fun j hj => if_neg (by omega))) (by omega) (by decide)) rfl rfl rfl) ?_
      refine .cons (OpS.C0 (aIs2 (IsR.eq (isr 64 ((gcdN (fun p => zv (f p).1 (val ((f p).2.take 4)) * (zv s1 (val (xs1.take 3)))) i : Nat) : Int)) (congrArg (fun m : Nat => (m : Int)) (gcdN_congr (fun j hj => (if_pos hj).symm)))) (isn 21 ((gcdN (fun p => if p < i then (fun p => zv (f p).1 (val ((f p).2.take 4)) * (zv s1 (val (xs1.take 3)))) p else 0) i) : Int)) (by decide) (by decide)) rfl rfl rfl) ?_
      refine .cons (OpS.V _ rfl) ?_
      refine .cons (OpS.V _ rfl) ?_
      refine .cons (OpS.C0 (aWakes) rfl rfl rfl) ?_
      refine .cons (OpS.V _ rfl) ?_
      refine .cons (OpS.V _ rfl) ?_
      refine .nil ?_
      refine mNil ?_
      refine tN ?_
      refine cRet ?_
      exact rQ rfl (AV.le.rfl)
  · skip
    refine cReg ?_
    refine mV hTT _ rfl ?_
    refine mV hTT _ rfl ?_
    refine mV hTT (.d (.one (.v (.int .i64 (n : Int))))) rfl ?_
    refine mV hTT (.d (.one (.v (.bool false)))) (evb (decide_eq_false (by omega))) ?_
    refine mV hTT _ rfl ?_
    refine mG rfl rfl ?_
    refine mG rfl rfl ?_
    refine mV hTT _ rfl ?_
    refine mNil ?_
    refine tN ?_
    refine cF rfl ?_
    refine cExit ?_
    refine tE ?_
    refine tE ?_
    refine bE ?_
    refine tN ?_
    refine cSeq ?_
    refine AW.wk (wkRow 6 rfl) ?_
    refine cView 6 (.d (.one (.row 2 i (zel 21 (fun p => if p < i then (fun p => zv (f p).1 (val ((f p).2.take 4)) * (zv s1 (val (xs1.take 3)))) p else 0))))) rfl (le_one (prow_le (Nat.le_refl _) (fun j hj => (if_pos hj).symm))) ?_
    refine cDrawK hTT 14 (by kernel_rfl) (by kernel_rfl) ?_
    refine .cons (OpS.V (.ptr 3 1) rfl) ?_
    refine .cons (OpS.V (.d (.one (lr 3 (xs1.take 3)))) rfl) ?_
    refine .cons (OpS.V (.d (.one (.v (.int .i64 ((xs1.take 3).length : Int))))) rfl) ?_
    refine .cons (OpS.V (.d (.one (.v (.bool true)))) (evb (decide_eq_true (by have h0 := List.length_take_le 3 xs1; omega)))) ?_
    refine .cons (OpS.V _ rfl) ?_
    refine .cons (OpS.V (.d (.agg (rn 64 ((gcdN (fun p => zv (f p).1 (val ((f p).2.take 4)) * (zv s1 (val (xs1.take 3)))) i : Nat) : Int)))) rfl) ?_
    refine .cons (OpS.V _ rfl) ?_
    refine .cons (OpS.C0 (aGcd (isp (K := 21) (c := (fun p => if p < i then (fun p => zv (f p).1 (val ((f p).2.take 4)) * (zv s1 (val (xs1.take 3)))) p else 0)) (fun j hj => if_neg (by omega))) (by omega) (by decide)) rfl rfl rfl) ?_
    refine .cons (OpS.C0 (aIs2 (IsR.eq (isr 64 ((gcdN (fun p => zv (f p).1 (val ((f p).2.take 4)) * (zv s1 (val (xs1.take 3)))) i : Nat) : Int)) (congrArg (fun m : Nat => (m : Int)) (gcdN_congr (fun j hj => (if_pos hj).symm)))) (isn 21 ((gcdN (fun p => if p < i then (fun p => zv (f p).1 (val ((f p).2.take 4)) * (zv s1 (val (xs1.take 3)))) p else 0) i) : Int)) (by decide) (by decide)) rfl rfl rfl) ?_
    refine .cons (OpS.V _ rfl) ?_
    refine .cons (OpS.V _ rfl) ?_
    refine .cons (OpS.C0 (aWakes) rfl rfl rfl) ?_
    refine .cons (OpS.V _ rfl) ?_
    refine .cons (OpS.V _ rfl) ?_
    refine .nil ?_
    refine mNil ?_
    refine tN ?_
    refine cRet ?_
    exact rQ rfl (AV.le.rfl)

end Go.Proofs.Ytkcagkcphobmfaa
