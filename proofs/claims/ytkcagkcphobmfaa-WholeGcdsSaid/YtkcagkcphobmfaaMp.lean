/-
  WHOLE NUMBERS in the machine's words.
-/
import Derived.Test.YtkcagkcphobmfaaMo
import Derived.Test.YtkcagkcphobmfaaMn
set_option linter.unusedVariables false
set_option linter.unusedSimpArgs false
namespace Go.Proofs.Ytkcagkcphobmfaa
open Go.RowKit

theorem le_made {K m : Nat} {b : Bool} {z : Int} (h1 : b = decide (z < 0)) (h2 : m = z.natAbs) : AV.le (.d (.agg [.v (.bool b), ln K m])) (.d (.agg (zn K z))) := by subst h1; subst h2; exact AV.le.rfl
theorem le_rmade {K m : Nat} {b : Bool} {z : Int} (h1 : b = decide (z < 0)) (h2 : m = z.natAbs) : AV.le (.d (.agg [dn K m, .v (.bool b)])) (.d (.agg (rn K z))) := by subst h1; subst h2; exact AV.le.rfl
theorem limbs_len (m : Nat) : (limbs m).length = 0 ↔ m = 0 := by
  rw [List.length_eq_zero_iff]; exact limbs_eq_nil
theorem digs_len (m : Nat) : (digs4 m).length = 0 ↔ m = 0 := by
  rw [List.length_eq_zero_iff]; exact digs4_eq_nil
def sgn (z : Int) : Int := if z < 0 then -1 else if z = 0 then 0 else 1
theorem nbits_zero_iff (m : Nat) : nbits m = 0 ↔ m = 0 := ⟨fun h => by
  rcases Nat.eq_zero_or_pos m with h0 | h0
  · exact h0
  · have := nbits_pos (n := m) (by omega); omega, fun h => by subst h; rfl⟩
theorem zv_mul (s t : Bool) (a b : Nat) : zv (s != t) (a * b) = zv s a * zv t b := by
  cases s <;> cases t <;> simp [zv, Int.neg_mul, Int.mul_neg]
theorem zv_add (s t : Bool) (a b : Nat) (h : (s == t) = true) : zv s (a + b) = zv s a + zv t b := by
  cases s <;> cases t <;> simp_all [zv] <;> omega
theorem zv_sub1 (s t : Bool) (a b : Nat) (h : (s == t) = false) (hle : b ≤ a) : zv s (a - b) = zv s a + zv t b := by
  cases s <;> cases t <;> simp_all [zv] <;> omega
theorem zv_sub2 (s t : Bool) (a b : Nat) (h : (s == t) = false) (hle : ¬ b ≤ a) : zv t (b - a) = zv s a + zv t b := by
  cases s <;> cases t <;> simp_all [zv] <;> omega
theorem zvz (x : Int) : x = zv (decide (x < 0)) x.natAbs := (zv_natAbs x).symm

set_option maxRecDepth 100000 in
set_option maxHeartbeats 4000000 in
theorem aMade {K m : Nat} {neg : Bool} {z : Int} (hz : zv neg m = z) : ACall Try.prog 55 [.one (ln K m), .one (.v (.bool neg))] (.d (.agg (zn K z))) := by
  subst hz
  cases neg
  · skip
    refine acallN hTT 13 [.cell 4 24] Try.func55 rfl rfl rfl rfl rfl ?_
    refine cSeq ?_
    refine cReg ?_
    refine mN hTT (.box 24 ([.v (.bool false), .v (.slice none 0 0)])) rfl rfl rfl ?_
    refine mNil ?_
    refine tN ?_
    refine cSeq ?_
    refine cReg ?_
    refine mV hTT _ rfl ?_
    refine mV hTT _ rfl ?_
    refine mG rfl rfl ?_
    refine mG rfl rfl ?_
    refine mG rfl rfl ?_
    refine mV hTT _ rfl ?_
    refine mV hTT _ rfl ?_
    refine mV hTT (.d (.agg ([.v (.bool false), ln K m]))) rfl ?_
    refine mS hTT 4 (.box 24 ([.v (.bool false), ln K m])) rfl ?_
    refine mNil ?_
    refine tN ?_
    refine cRet ?_
    exact rQ rfl (le_made (by simp [zv_neg]) (zv_abs _ _).symm)
  · skip
    refine acallN hTT 13 [.cell 4 24] Try.func55 rfl rfl rfl rfl rfl ?_
    refine cSeq ?_
    refine cReg ?_
    refine mN hTT (.box 24 ([.v (.bool false), .v (.slice none 0 0)])) rfl rfl rfl ?_
    refine mNil ?_
    refine tN ?_
    refine cSeq ?_
    refine cReg ?_
    refine mV hTT _ rfl ?_
    refine mV hTT _ rfl ?_
    refine mV hTT _ rfl ?_
    refine mV hTT (.d (.one (.v (.int .i64 ((limbs m).length : Int))))) rfl ?_
    refine mV hTT (.d (.one (.v (.bool (decide (((limbs m).length : Int) > 0)))))) rfl ?_
    refine mV hTT _ rfl ?_
    refine mV hTT _ rfl ?_
    refine mV hTT (.d (.agg ([.v (.bool (decide (((limbs m).length : Int) > 0))), ln K m]))) rfl ?_
    refine mS hTT 4 (.box 24 ([.v (.bool (decide (((limbs m).length : Int) > 0))), ln K m])) rfl ?_
    refine mNil ?_
    refine tN ?_
    refine cRet ?_
    exact rQ rfl (le_made (by rw [zv_neg]; have := limbs_len m; rw [Bool.true_and, decide_eq_decide]; omega) (zv_abs _ _).symm)

set_option maxRecDepth 100000 in
set_option maxHeartbeats 4000000 in
theorem aRMade {K m : Nat} {neg : Bool} {z : Int} (hz : zv neg m = z) : ACall Try.prog 59 [.one (dn K m), .one (.v (.bool neg))] (.d (.agg (rn K z))) := by
  subst hz
  cases neg
  · skip
    refine acallN hTT 13 [.cell 4 28] Try.func59 rfl rfl rfl rfl rfl ?_
    refine cSeq ?_
    refine cReg ?_
    refine mN hTT (.box 28 ([.v (.slice none 0 0), .v (.bool false)])) rfl rfl rfl ?_
    refine mNil ?_
    refine tN ?_
    refine cSeq ?_
    refine cReg ?_
    refine mV hTT _ rfl ?_
    refine mV hTT _ rfl ?_
    refine mV hTT _ rfl ?_
    refine mG rfl rfl ?_
    refine mG rfl rfl ?_
    refine mG rfl rfl ?_
    refine mV hTT _ rfl ?_
    refine mV hTT (.d (.agg ([dn K m, .v (.bool false)]))) rfl ?_
    refine mS hTT 4 (.box 28 ([dn K m, .v (.bool false)])) rfl ?_
    refine mNil ?_
    refine tN ?_
    refine cRet ?_
    exact rQ rfl (le_rmade (by simp [zv_neg]) (zv_abs _ _).symm)
  · skip
    refine acallN hTT 13 [.cell 4 28] Try.func59 rfl rfl rfl rfl rfl ?_
    refine cSeq ?_
    refine cReg ?_
    refine mN hTT (.box 28 ([.v (.slice none 0 0), .v (.bool false)])) rfl rfl rfl ?_
    refine mNil ?_
    refine tN ?_
    refine cSeq ?_
    refine cReg ?_
    refine mV hTT _ rfl ?_
    refine mV hTT _ rfl ?_
    refine mV hTT _ rfl ?_
    refine mV hTT _ rfl ?_
    refine mV hTT (.d (.one (.v (.int .i64 ((digs4 m).length : Int))))) rfl ?_
    refine mV hTT (.d (.one (.v (.bool (decide (((digs4 m).length : Int) > 0)))))) rfl ?_
    refine mV hTT _ rfl ?_
    refine mV hTT (.d (.agg ([dn K m, .v (.bool (decide (((digs4 m).length : Int) > 0)))]))) rfl ?_
    refine mS hTT 4 (.box 28 ([dn K m, .v (.bool (decide (((digs4 m).length : Int) > 0)))])) rfl ?_
    refine mNil ?_
    refine tN ?_
    refine cRet ?_
    exact rQ rfl (le_rmade (by rw [zv_neg]; have := digs_len m; rw [Bool.true_and, decide_eq_decide]; omega) (zv_abs _ _).symm)

set_option maxRecDepth 100000 in
set_option maxHeartbeats 4000000 in
theorem aNorm {a : List Lf} {K : Nat} {x : Int} (ha : IsZ a K x) (hK : K ≤ 1073741824 := by decide) : ACall Try.prog 43 [.agg a] (.d (.agg (zn K x))) := by
  obtain ⟨s, xs, ha, rfl⟩ := ha
  refine ACall.le (dl (DV.z ha) dl0) AV.le.rfl ?_
  refine acallN hTT 9 [.cell 2 24] Try.func43 rfl rfl rfl rfl rfl ?_
  refine cSeq ?_
  refine cReg ?_
  refine mN hTT (.box 24 ([.v (.bool s), lr K xs])) rfl rfl rfl ?_
  refine mN hTT (.box 24 ([.v (.bool false), .v (.slice none 0 0)])) rfl rfl rfl ?_
  refine mNil ?_
  refine tN ?_
  refine cSeq ?_
  refine cDrawK hTT 6 (by kernel_rfl) (by kernel_rfl) ?_
  refine .cons (OpS.V (.ptr 1 1) rfl) ?_
  refine .cons (OpS.V (.d (.one (lr K xs))) rfl) ?_
  refine .cons (OpS.C0 (aLNorm (islv K xs) (by omega)) rfl rfl rfl) ?_
  refine .cons (OpS.V (.ptr 1 0) rfl) ?_
  refine .cons (OpS.V (.d (.one (.v (.bool s)))) rfl) ?_
  refine .cons (OpS.C0 (aMade (K := K) (m := (val xs)) (neg := s) rfl) rfl rfl rfl) ?_
  refine .nil ?_
  refine mS hTT 2 (.box 24 (zn K (zv s (val xs)))) rfl ?_
  refine mNil ?_
  refine tN ?_
  refine cRet ?_
  exact rQ rfl (AV.le.rfl)

set_option maxRecDepth 100000 in
set_option maxHeartbeats 4000000 in
theorem aNeg {a : List Lf} {K : Nat} {x : Int} (ha : IsZ a K x) (hK : K ≤ 1073741824 := by decide) : ACall Try.prog 34 [.agg a] (.d (.agg (zn K (-x)))) := by
  obtain ⟨s, xs, ha, rfl⟩ := ha
  refine ACall.le (dl (DV.z ha) dl0) AV.le.rfl ?_
  refine acallN hTT 10 [.cell 2 24] Try.func34 rfl rfl rfl rfl rfl ?_
  refine cSeq ?_
  refine cReg ?_
  refine mN hTT (.box 24 ([.v (.bool s), lr K xs])) rfl rfl rfl ?_
  refine mN hTT (.box 24 ([.v (.bool false), .v (.slice none 0 0)])) rfl rfl rfl ?_
  refine mNil ?_
  refine tN ?_
  refine cSeq ?_
  refine cDrawK hTT 7 (by kernel_rfl) (by kernel_rfl) ?_
  refine .cons (OpS.V (.ptr 1 1) rfl) ?_
  refine .cons (OpS.V (.d (.one (lr K xs))) rfl) ?_
  refine .cons (OpS.C0 (aLNorm (islv K xs) (by omega)) rfl rfl rfl) ?_
  refine .cons (OpS.V (.ptr 1 0) rfl) ?_
  refine .cons (OpS.V (.d (.one (.v (.bool s)))) rfl) ?_
  refine .cons (OpS.V (.d (.one (.v (.bool (!s))))) rfl) ?_
  refine .cons (OpS.C0 (aMade (K := K) (m := (val xs)) (neg := !s) rfl) rfl rfl rfl) ?_
  refine .nil ?_
  refine mS hTT 2 (.box 24 (zn K (zv (!s) (val xs)))) rfl ?_
  refine mNil ?_
  refine tN ?_
  refine cRet ?_
  exact rQ rfl (le_zn (Nat.le_refl _) (by cases s <;> simp [zv]))

set_option maxRecDepth 100000 in
set_option maxHeartbeats 4000000 in
theorem aAbs {a : List Lf} {K : Nat} {x : Int} (ha : IsZ a K x) (hK : K ≤ 1073741824 := by decide) : ACall Try.prog 35 [.agg a] (.d (.agg (zn K (x.natAbs : Int)))) := by
  obtain ⟨s, xs, ha, rfl⟩ := ha
  refine ACall.le (dl (DV.z ha) dl0) AV.le.rfl ?_
  refine acallN hTT 7 [.cell 2 24] Try.func35 rfl rfl rfl rfl rfl ?_
  refine cSeq ?_
  refine cReg ?_
  refine mN hTT (.box 24 ([.v (.bool s), lr K xs])) rfl rfl rfl ?_
  refine mN hTT (.box 24 ([.v (.bool false), .v (.slice none 0 0)])) rfl rfl rfl ?_
  refine mNil ?_
  refine tN ?_
  refine cSeq ?_
  refine cReg ?_
  refine mV hTT (.ptr 1 1) rfl ?_
  refine mV hTT (.d (.one (lr K xs))) rfl ?_
  refine mC0 (aLNorm (islv K xs) (by omega)) rfl rfl rfl ?_
  refine mC0 (aMade (K := K) (m := (val xs)) (neg := false) rfl) rfl rfl rfl ?_
  refine mS hTT 2 (.box 24 (zn K (zv false (val xs)))) rfl ?_
  refine mNil ?_
  refine tN ?_
  refine cRet ?_
  exact rQ rfl (le_zn (Nat.le_refl _) (by rw [zv_abs]; rfl))

set_option maxRecDepth 100000 in
set_option maxHeartbeats 4000000 in
theorem aAdd {a b : List Lf} {K L M : Nat} {x y : Int} (ha : IsZ a K x) (hb : IsZ b L y) (hM : max K L + 1 ≤ M := by decide) (hK : K ≤ 1073741824 := by decide) (hL : L ≤ 1073741824 := by decide) : ACall Try.prog 37 [.agg a, .agg b] (.d (.agg (zn M (x + y)))) := by
  obtain ⟨s, xs, ha, rfl⟩ := ha
  obtain ⟨t, ys, hb, rfl⟩ := hb
  refine ACall.le (dl (DV.z ha) (dl (DV.z hb) dl0)) AV.le.rfl ?_
  refine acallN hTT 47 [.cell 4 24] Try.func37 rfl rfl rfl rfl rfl ?_
  refine cSeq ?_
  refine cReg ?_
  refine mN hTT (.box 24 ([.v (.bool s), lr K xs])) rfl rfl rfl ?_
  refine mN hTT (.box 24 ([.v (.bool t), lr L ys])) rfl rfl rfl ?_
  refine mN hTT (.box 24 ([.v (.bool false), .v (.slice none 0 0)])) rfl rfl rfl ?_
  refine mNil ?_
  refine tN ?_
  refine cSeq ?_
  refine cSeq ?_
  refine cReg ?_
  refine mV hTT (.ptr 2 0) rfl ?_
  refine mV hTT (.d (.one (.v (.bool s)))) rfl ?_
  refine mV hTT (.ptr 3 0) rfl ?_
  refine mV hTT (.d (.one (.v (.bool t)))) rfl ?_
  refine mV hTT (.d (.one (.v (.bool (s == t))))) rfl ?_
  refine mNil ?_
  refine tN ?_
  refine cCond rfl (fun hc1 => ?_) (fun hc1 => ?_)
  · skip
    refine cSeq ?_
    refine cDrawK hTT 8 (by kernel_rfl) (by kernel_rfl) ?_
    refine .cons (OpS.V (.ptr 2 1) rfl) ?_
    refine .cons (OpS.V (.d (.one (lr K xs))) rfl) ?_
    refine .cons (OpS.V (.ptr 3 1) rfl) ?_
    refine .cons (OpS.V (.d (.one (lr L ys))) rfl) ?_
    refine .cons (OpS.C0 (aLAdd (islv K xs) (islv L ys) (M := (max K L + 1)) (by omega) (by omega) (by omega)) rfl rfl rfl) ?_
    refine .cons (OpS.V (.ptr 2 0) rfl) ?_
    refine .cons (OpS.V (.d (.one (.v (.bool s)))) rfl) ?_
    refine .cons (OpS.C0 (aMade (K := (max K L + 1)) (m := ((val xs) + (val ys))) (neg := s) rfl) rfl rfl rfl) ?_
    refine .nil ?_
    refine mS hTT 4 (.box 24 (zn (max K L + 1) (zv s ((val xs) + (val ys))))) rfl ?_
    refine mNil ?_
    refine tN ?_
    refine cRet ?_
    refine tR ?_
    exact rQ rfl (le_zn hM (zv_add _ _ _ _ hc1))
  · skip
    refine cSkip ?_
    refine tN ?_
    refine cSeq ?_
    refine cSeq ?_
    refine cReg ?_
    refine mV hTT (.ptr 2 1) rfl ?_
    refine mV hTT (.d (.one (lr K xs))) rfl ?_
    refine mV hTT (.ptr 3 1) rfl ?_
    refine mV hTT (.d (.one (lr L ys))) rfl ?_
    refine mC0 (aLSub (islv K xs) (islv L ys) (by omega) (by omega)) rfl rfl rfl ?_
    refine mV hTT _ rfl ?_
    refine mV hTT _ rfl ?_
    refine mV hTT _ rfl ?_
    refine mV hTT _ rfl ?_
    refine mV hTT _ rfl ?_
    refine mNil ?_
    refine tN ?_
    refine cSeq ?_
    refine cReg ?_
    refine mV hTT _ rfl ?_
    refine mNil ?_
    refine tN ?_
    refine cCond rfl (fun hc2 => ?_) (fun hc2 => ?_)
    · skip
      refine cSeq ?_
      refine cReg ?_
      refine mV hTT _ rfl ?_
      refine mV hTT (.ptr 2 0) rfl ?_
      refine mV hTT (.d (.one (.v (.bool s)))) rfl ?_
      refine mC0 (aMade (K := K) (m := ((val xs) - (val ys))) (neg := s) rfl) rfl rfl rfl ?_
      refine mS hTT 4 (.box 24 (zn K (zv s ((val xs) - (val ys))))) rfl ?_
      refine mNil ?_
      refine tN ?_
      refine cRet ?_
      refine tR ?_
      exact rQ rfl (le_zn (by omega) (zv_sub1 _ _ _ _ hc1 (by simpa using hc2)))
    · skip
      refine cSkip ?_
      refine tN ?_
      refine cSeq ?_
      refine cReg ?_
      refine mV hTT (.ptr 3 1) rfl ?_
      refine mV hTT (.d (.one (lr L ys))) rfl ?_
      refine mV hTT (.ptr 2 1) rfl ?_
      refine mV hTT (.d (.one (lr K xs))) rfl ?_
      refine mC0 (aLSub (islv L ys) (islv K xs) (by omega) (by omega)) rfl rfl rfl ?_
      refine mV hTT _ rfl ?_
      refine mV hTT _ rfl ?_
      refine mV hTT _ rfl ?_
      refine mV hTT _ rfl ?_
      refine mV hTT _ rfl ?_
      refine mNil ?_
      refine tN ?_
      refine cSeq ?_
      refine cReg ?_
      refine mV hTT _ rfl ?_
      refine mV hTT (.ptr 3 0) rfl ?_
      refine mV hTT (.d (.one (.v (.bool t)))) rfl ?_
      refine mC0 (aMade (K := L) (m := ((val ys) - (val xs))) (neg := t) rfl) rfl rfl rfl ?_
      refine mS hTT 4 (.box 24 (zn L (zv t ((val ys) - (val xs))))) rfl ?_
      refine mNil ?_
      refine tN ?_
      refine cRet ?_
      exact rQ rfl (le_zn (by omega) (zv_sub2 _ _ _ _ hc1 (by simpa using hc2)))

set_option maxRecDepth 100000 in
set_option maxHeartbeats 4000000 in
theorem aSub {a b : List Lf} {K L M : Nat} {x y : Int} (ha : IsZ a K x) (hb : IsZ b L y) (hM : max K L + 1 ≤ M := by decide) (hK : K ≤ 1073741824 := by decide) (hL : L ≤ 1073741824 := by decide) : ACall Try.prog 41 [.agg a, .agg b] (.d (.agg (zn M (x - y)))) := by
  obtain ⟨s, xs, ha, rfl⟩ := ha
  obtain ⟨t, ys, hb, rfl⟩ := hb
  refine ACall.le (dl (DV.z ha) (dl (DV.z hb) dl0)) AV.le.rfl ?_
  refine acallN hTT 12 [.cell 4 24] Try.func41 rfl rfl rfl rfl rfl ?_
  refine cSeq ?_
  refine cReg ?_
  refine mN hTT (.box 24 ([.v (.bool s), lr K xs])) rfl rfl rfl ?_
  refine mN hTT (.box 24 ([.v (.bool t), lr L ys])) rfl rfl rfl ?_
  refine mN hTT (.box 24 ([.v (.bool false), .v (.slice none 0 0)])) rfl rfl rfl ?_
  refine mNil ?_
  refine tN ?_
  refine cSeq ?_
  refine cReg ?_
  refine mV hTT (.ptr 3 0) rfl ?_
  refine mV hTT (.d (.one (.v (.bool t)))) rfl ?_
  refine mV hTT (.d (.one (.v (.bool (!t))))) rfl ?_
  refine mV hTT (.ptr 3 0) rfl ?_
  refine mS hTT 3 (.box 24 ([.v (.bool (!t)), lr L ys])) rfl ?_
  refine mNil ?_
  refine tN ?_
  refine cSeq ?_
  refine cReg ?_
  refine mV hTT (.d (.agg ([.v (.bool s), lr K xs]))) rfl ?_
  refine mV hTT (.d (.agg ([.v (.bool (!t)), lr L ys]))) rfl ?_
  refine mC0 (aAdd (iszr K s xs) (iszr L (!t) ys) (M := (max K L + 1)) (by omega) (by omega) (by omega)) rfl rfl rfl ?_
  refine mS hTT 4 (.box 24 (zn (max K L + 1) ((zv s (val xs)) + (zv (!t) (val ys))))) rfl ?_
  refine mNil ?_
  refine tN ?_
  refine cRet ?_
  exact rQ rfl (le_zn hM (by cases t <;> simp [zv] <;> omega))

set_option maxRecDepth 100000 in
set_option maxHeartbeats 4000000 in
theorem aMul {a b : List Lf} {K L M : Nat} {x y : Int} (ha : IsZ a K x) (hb : IsZ b L y) (hM : K + L ≤ M := by decide) (hK : K ≤ 1073741824 := by decide) (hL : L ≤ 1073741824 := by decide) : ACall Try.prog 36 [.agg a, .agg b] (.d (.agg (zn M (x * y)))) := by
  obtain ⟨s, xs, ha, rfl⟩ := ha
  obtain ⟨t, ys, hb, rfl⟩ := hb
  refine ACall.le (dl (DV.z ha) (dl (DV.z hb) dl0)) AV.le.rfl ?_
  refine acallN hTT 16 [.cell 4 24] Try.func36 rfl rfl rfl rfl rfl ?_
  refine cSeq ?_
  refine cReg ?_
  refine mN hTT (.box 24 ([.v (.bool s), lr K xs])) rfl rfl rfl ?_
  refine mN hTT (.box 24 ([.v (.bool t), lr L ys])) rfl rfl rfl ?_
  refine mN hTT (.box 24 ([.v (.bool false), .v (.slice none 0 0)])) rfl rfl rfl ?_
  refine mNil ?_
  refine tN ?_
  refine cSeq ?_
  refine cDrawK hTT 11 (by kernel_rfl) (by kernel_rfl) ?_
  refine .cons (OpS.V (.ptr 2 1) rfl) ?_
  refine .cons (OpS.V (.d (.one (lr K xs))) rfl) ?_
  refine .cons (OpS.V (.ptr 3 1) rfl) ?_
  refine .cons (OpS.V (.d (.one (lr L ys))) rfl) ?_
  refine .cons (OpS.C0 (aLMul (islv K xs) (islv L ys) (M := (K + L)) (by omega) (by omega) (by omega)) rfl rfl rfl) ?_
  refine .cons (OpS.V (.ptr 2 0) rfl) ?_
  refine .cons (OpS.V (.d (.one (.v (.bool s)))) rfl) ?_
  refine .cons (OpS.V (.ptr 3 0) rfl) ?_
  refine .cons (OpS.V (.d (.one (.v (.bool t)))) rfl) ?_
  refine .cons (OpS.V (.d (.one (.v (.bool (!(s == t)))))) rfl) ?_
  refine .cons (OpS.C0 (aMade (K := (K + L)) (m := ((val xs) * (val ys))) (neg := !(s == t)) rfl) rfl rfl rfl) ?_
  refine .nil ?_
  refine mS hTT 4 (.box 24 (zn (K + L) (zv (!(s == t)) ((val xs) * (val ys))))) rfl ?_
  refine mNil ?_
  refine tN ?_
  refine cRet ?_
  exact rQ rfl (le_zn hM (zv_mul _ _ _ _))

set_option maxRecDepth 100000 in
set_option maxHeartbeats 4000000 in
theorem aSgn {a : List Lf} {K : Nat} {x : Int} (ha : IsZ a K x) (hK : K ≤ 1073741824 := by decide) : ACall Try.prog 71 [.agg a] (.d (.one (.v (.int .i64 (sgn x))))) := by
  obtain ⟨s, xs, ha, rfl⟩ := ha
  refine ACall.le (dl (DV.z ha) dl0) AV.le.rfl ?_
  refine acallN hTT 11 [.tmp 2] Try.func71 rfl rfl rfl rfl rfl ?_
  refine cSeq ?_
  refine cReg ?_
  refine mN hTT (.box 24 ([.v (.bool s), lr K xs])) rfl rfl rfl ?_
  refine mV hTT _ rfl ?_
  refine mNil ?_
  refine tN ?_
  refine cSeq ?_
  refine cBlock ?_
  refine cSeq ?_
  refine cReg ?_
  refine mV hTT (.ptr 1 1) rfl ?_
  refine mV hTT (.d (.one (lr K xs))) rfl ?_
  refine mC0 (aLBits (islv K xs) (by omega)) rfl rfl rfl ?_
  refine mV hTT (.d (.one (.v (.bool (((nbits (val xs) : Nat) : Int) == 0))))) rfl ?_
  refine mV hTT _ rfl ?_
  refine mNil ?_
  refine tN ?_
  refine cCond rfl (fun hc1 => ?_) (fun hc1 => ?_)
  · skip
    refine cSeq ?_
    refine cReg ?_
    refine mV hTT _ rfl ?_
    refine mNil ?_
    refine tN ?_
    refine cRet ?_
    refine bR ?_
    refine tR ?_
    exact rQ rfl (le_int (by have h0 := nbits_zero_iff (val xs); simp only [beq_iff_eq, beq_eq_false_iff_ne, ne_eq, bne_iff_ne, bne_eq_false_iff_eq, decide_eq_true_eq, decide_eq_false_iff_not] at hc1; unfold sgn zv; cases s <;> (repeat' split) <;> first | omega | (exfalso; simp at *; done) | (simp at *; omega)))
  · skip
    refine cSeq ?_
    refine cReg ?_
    refine mV hTT (.ptr 1 0) rfl ?_
    refine mV hTT (.d (.one (.v (.bool s)))) rfl ?_
    refine mV hTT _ rfl ?_
    refine mNil ?_
    refine tN ?_
    refine cCond rfl (fun hc2 => ?_) (fun hc2 => ?_)
    · skip
      refine cSeq ?_
      refine cReg ?_
      refine mV hTT _ rfl ?_
      refine mNil ?_
      refine tN ?_
      refine cRet ?_
      refine bR ?_
      refine tR ?_
      exact rQ rfl (le_int (by have h0 := nbits_zero_iff (val xs); simp only [beq_iff_eq, beq_eq_false_iff_ne, ne_eq, bne_iff_ne, bne_eq_false_iff_eq, decide_eq_true_eq, decide_eq_false_iff_not] at hc1 hc2; unfold sgn zv; cases s <;> (repeat' split) <;> first | omega | (exfalso; simp at *; done) | (simp at *; omega)))
    · skip
      refine cSkip ?_
      refine bN ?_
      refine tN ?_
      refine cSeq ?_
      refine cReg ?_
      refine mV hTT _ rfl ?_
      refine mNil ?_
      refine tN ?_
      refine cRet ?_
      exact rQ rfl (le_int (by have h0 := nbits_zero_iff (val xs); simp only [beq_iff_eq, beq_eq_false_iff_ne, ne_eq, bne_iff_ne, bne_eq_false_iff_eq, decide_eq_true_eq, decide_eq_false_iff_not] at hc1 hc2; unfold sgn zv; cases s <;> (repeat' split) <;> first | omega | (exfalso; simp at *; done) | (simp at *; omega)))

set_option maxRecDepth 100000 in
set_option maxHeartbeats 4000000 in
theorem aCmp {a b : List Lf} {K L : Nat} {x y : Int} (ha : IsZ a K x) (hb : IsZ b L y) (hK : K ≤ 1073741824 := by decide) (hL : L ≤ 1073741824 := by decide) : ACall Try.prog 44 [.agg a, .agg b] (.d (.one (.v (.int .i64 (cmpZ x y))))) := by
  obtain ⟨s, xs, ha, hx⟩ := ha
  obtain ⟨t, ys, hb, hy⟩ := hb
  refine ACall.le (dl (DV.z ha) (dl (DV.z hb) dl0)) AV.le.rfl ?_
  have hxa : val xs = x.natAbs := by rw [← hx, zv_abs]
  have hya : val ys = y.natAbs := by rw [← hy, zv_abs]
  refine acallN hTT 32 [.tmp 4] Try.func44 rfl rfl rfl rfl rfl ?_
  refine cSeq ?_
  refine cReg ?_
  refine mN hTT (.box 24 ([.v (.bool s), lr K xs])) rfl rfl rfl ?_
  refine mN hTT (.box 24 ([.v (.bool t), lr L ys])) rfl rfl rfl ?_
  refine mV hTT _ rfl ?_
  refine mNil ?_
  refine tN ?_
  refine cSeq ?_
  refine cDrawK hTT 6 (by kernel_rfl) (by kernel_rfl) ?_
  refine .cons (OpS.V (.d (.agg ([.v (.bool s), lr K xs]))) rfl) ?_
  refine .cons (OpS.C0 (aSgn ⟨s, xs, fun _ _ _ h => h, hx⟩ (by omega)) rfl rfl rfl) ?_
  refine .cons (OpS.V (.d (.agg ([.v (.bool t), lr L ys]))) rfl) ?_
  refine .cons (OpS.C0 (aSgn ⟨t, ys, fun _ _ _ h => h, hy⟩ (by omega)) rfl rfl rfl) ?_
  refine .cons (OpS.V _ rfl) ?_
  refine .cons (OpS.V _ rfl) ?_
  refine .nil ?_
  refine mNil ?_
  refine tN ?_
  refine cSeq ?_
  refine cBlock ?_
  refine cSeq ?_
  refine cReg ?_
  refine mV hTT _ rfl ?_
  refine mV hTT _ rfl ?_
  refine mV hTT (.d (.one (.v (.bool (decide ((sgn x) < (sgn y))))))) rfl ?_
  refine mV hTT _ rfl ?_
  refine mNil ?_
  refine tN ?_
  refine cCond rfl (fun hc1 => ?_) (fun hc1 => ?_)
  · skip
    refine cSeq ?_
    refine cReg ?_
    refine mV hTT _ rfl ?_
    refine mNil ?_
    refine tN ?_
    refine cRet ?_
    refine bR ?_
    refine tR ?_
    exact rQ rfl (le_int (by simp only [decide_eq_true_eq, decide_eq_false_iff_not] at hc1; (try rw [hxa, hya]); simp only [sgn, cmpZ] at *; (repeat' split at *) <;> omega))
  · skip
    refine cSeq ?_
    refine cReg ?_
    refine mV hTT _ rfl ?_
    refine mV hTT _ rfl ?_
    refine mV hTT (.d (.one (.v (.bool (decide ((sgn x) > (sgn y))))))) rfl ?_
    refine mV hTT _ rfl ?_
    refine mNil ?_
    refine tN ?_
    refine cCond rfl (fun hc2 => ?_) (fun hc2 => ?_)
    · skip
      refine cSeq ?_
      refine cReg ?_
      refine mV hTT _ rfl ?_
      refine mNil ?_
      refine tN ?_
      refine cRet ?_
      refine bR ?_
      refine tR ?_
      exact rQ rfl (le_int (by simp only [decide_eq_true_eq, decide_eq_false_iff_not] at hc1 hc2; (try rw [hxa, hya]); simp only [sgn, cmpZ] at *; (repeat' split at *) <;> omega))
    · skip
      refine cSeq ?_
      refine cReg ?_
      refine mV hTT _ rfl ?_
      refine mV hTT (.d (.one (.v (.bool (decide ((sgn x) < 0)))))) rfl ?_
      refine mV hTT _ rfl ?_
      refine mNil ?_
      refine tN ?_
      refine cCond rfl (fun hc3 => ?_) (fun hc3 => ?_)
      · skip
        refine cSeq ?_
        refine cReg ?_
        refine mV hTT (.ptr 3 1) rfl ?_
        refine mV hTT (.d (.one (lr L ys))) rfl ?_
        refine mV hTT (.ptr 2 1) rfl ?_
        refine mV hTT (.d (.one (lr K xs))) rfl ?_
        refine mC0 (aLCmp (islv L ys) (islv K xs) (by omega) (by omega)) rfl rfl rfl ?_
        refine mV hTT _ rfl ?_
        refine mNil ?_
        refine tN ?_
        refine cRet ?_
        refine bR ?_
        refine tR ?_
        exact rQ rfl (le_int (by simp only [decide_eq_true_eq, decide_eq_false_iff_not] at hc1 hc2 hc3; (try rw [hxa, hya]); simp only [sgn, cmpZ] at *; (repeat' split at *) <;> omega))
      · skip
        refine cSkip ?_
        refine bN ?_
        refine tN ?_
        refine cSeq ?_
        refine cReg ?_
        refine mV hTT (.ptr 2 1) rfl ?_
        refine mV hTT (.d (.one (lr K xs))) rfl ?_
        refine mV hTT (.ptr 3 1) rfl ?_
        refine mV hTT (.d (.one (lr L ys))) rfl ?_
        refine mC0 (aLCmp (islv K xs) (islv L ys) (by omega) (by omega)) rfl rfl rfl ?_
        refine mV hTT _ rfl ?_
        refine mNil ?_
        refine tN ?_
        refine cRet ?_
        exact rQ rfl (le_int (by simp only [decide_eq_true_eq, decide_eq_false_iff_not] at hc1 hc2 hc3; (try rw [hxa, hya]); simp only [sgn, cmpZ] at *; (repeat' split at *) <;> omega))

set_option maxRecDepth 100000 in
set_option maxHeartbeats 4000000 in
theorem aRFrom {a : List Lf} {K M : Nat} {x : Int} (ha : IsZ a K x) (hM : 3 * K ≤ M := by decide) (hK : K ≤ 100000000 := by decide) : ACall Try.prog 53 [.agg a] (.d (.agg (rn M x))) := by
  obtain ⟨s, xs, ha, rfl⟩ := ha
  refine ACall.le (dl (DV.z ha) dl0) AV.le.rfl ?_
  refine acallN hTT 9 [.cell 2 28] Try.func53 rfl rfl rfl rfl rfl ?_
  refine cSeq ?_
  refine cReg ?_
  refine mN hTT (.box 24 ([.v (.bool s), lr K xs])) rfl rfl rfl ?_
  refine mN hTT (.box 28 ([.v (.slice none 0 0), .v (.bool false)])) rfl rfl rfl ?_
  refine mNil ?_
  refine tN ?_
  refine cSeq ?_
  refine cDrawK hTT 6 (by kernel_rfl) (by kernel_rfl) ?_
  refine .cons (OpS.V (.ptr 1 1) rfl) ?_
  refine .cons (OpS.V (.d (.one (lr K xs))) rfl) ?_
  refine .cons (OpS.C0 (aNFrom (islv K xs) (M := (3 * K)) (by omega) (by omega)) rfl rfl rfl) ?_
  refine .cons (OpS.V (.ptr 1 0) rfl) ?_
  refine .cons (OpS.V (.d (.one (.v (.bool s)))) rfl) ?_
  refine .cons (OpS.C0 (aRMade (K := (3 * K)) (m := (val xs)) (neg := s) rfl) rfl rfl rfl) ?_
  refine .nil ?_
  refine mS hTT 2 (.box 28 (rn (3 * K) (zv s (val xs)))) rfl ?_
  refine mNil ?_
  refine tN ?_
  refine cRet ?_
  exact rQ rfl (le_rn hM rfl)

set_option maxRecDepth 100000 in
set_option maxHeartbeats 4000000 in
theorem aRTo {a : List Lf} {K : Nat} {x : Int} (ha : IsR a K x) (hK : K ≤ 1000000000 := by decide) : ACall Try.prog 22 [.agg a] (.d (.agg (zn K x))) := by
  refine ACall.le (dl (DV.g ha) dl0) AV.le.rfl ?_
  refine acallN hTT 9 [.cell 2 24] Try.func22 rfl rfl rfl rfl rfl ?_
  refine cSeq ?_
  refine cReg ?_
  refine mN hTT (.box 28 (rn K x)) rfl rfl rfl ?_
  refine mN hTT (.box 24 ([.v (.bool false), .v (.slice none 0 0)])) rfl rfl rfl ?_
  refine mNil ?_
  refine tN ?_
  refine cSeq ?_
  refine cDrawK hTT 6 (by kernel_rfl) (by kernel_rfl) ?_
  refine .cons (OpS.V (.ptr 1 1) rfl) ?_
  refine .cons (OpS.V (.d (.one (.v (.bool (decide (x < 0)))))) rfl) ?_
  refine .cons (OpS.V (.ptr 1 0) rfl) ?_
  refine .cons (OpS.V (.d (.one (dn K x.natAbs))) rfl) ?_
  refine .cons (OpS.C0 (aNTo (isd K x.natAbs) (by omega)) rfl rfl rfl) ?_
  refine .cons (OpS.V (.d (.agg ([.v (.bool (decide (x < 0))), ln K x.natAbs]))) rfl) ?_
  refine .nil ?_
  refine mS hTT 2 (.box 24 ([.v (.bool (decide (x < 0))), ln K x.natAbs])) rfl ?_
  refine mNil ?_
  refine tN ?_
  refine cRet ?_
  exact rQ rfl (AV.le.rfl)

set_option maxRecDepth 100000 in
set_option maxHeartbeats 4000000 in
theorem aRNeg {a : List Lf} {K M : Nat} {x : Int} (ha : IsR a K x) (hM : K ≤ M := by decide) (hK : K ≤ 1073741824 := by decide) : ACall Try.prog 42 [.agg a] (.d (.agg (rn M (-x)))) := by
  refine ACall.le (dl (DV.g ha) dl0) AV.le.rfl ?_
  refine acallN hTT 9 [.cell 2 28] Try.func42 rfl rfl rfl rfl rfl ?_
  refine cSeq ?_
  refine cReg ?_
  refine mN hTT (.box 28 (rn K x)) rfl rfl rfl ?_
  refine mN hTT (.box 28 ([.v (.slice none 0 0), .v (.bool false)])) rfl rfl rfl ?_
  refine mNil ?_
  refine tN ?_
  refine cSeq ?_
  refine cReg ?_
  refine mV hTT (.ptr 1 0) rfl ?_
  refine mV hTT (.d (.one (dn K x.natAbs))) rfl ?_
  refine mV hTT (.ptr 1 1) rfl ?_
  refine mV hTT (.d (.one (.v (.bool (decide (x < 0)))))) rfl ?_
  refine mV hTT (.d (.one (.v (.bool (!(decide (x < 0))))))) rfl ?_
  refine mC0 (aRMade (K := K) (m := x.natAbs) (neg := !(decide (x < 0))) rfl) rfl rfl rfl ?_
  refine mS hTT 2 (.box 28 (rn K (zv (!(decide (x < 0))) x.natAbs))) rfl ?_
  refine mNil ?_
  refine tN ?_
  refine cRet ?_
  exact rQ rfl (le_rn hM (by unfold zv; by_cases h : x < 0 <;> simp [h] <;> omega))

set_option maxRecDepth 100000 in
set_option maxHeartbeats 4000000 in
theorem aRAdd {a b : List Lf} {K L M : Nat} {x y : Int} (ha : IsR a K x) (hb : IsR b L y) (hM : max K L + 1 ≤ M := by decide) (hK : K ≤ 1073741824 := by decide) (hL : L ≤ 1073741824 := by decide) : ACall Try.prog 39 [.agg a, .agg b] (.d (.agg (rn M (x + y)))) := by
  refine ACall.le (dl (DV.g ha) (dl (DV.g hb) dl0)) AV.le.rfl ?_
  refine acallN hTT 40 [.cell 4 28] Try.func39 rfl rfl rfl rfl rfl ?_
  refine cSeq ?_
  refine cReg ?_
  refine mN hTT (.box 28 (rn K x)) rfl rfl rfl ?_
  refine mN hTT (.box 28 (rn L y)) rfl rfl rfl ?_
  refine mN hTT (.box 28 ([.v (.slice none 0 0), .v (.bool false)])) rfl rfl rfl ?_
  refine mNil ?_
  refine tN ?_
  refine cSeq ?_
  refine cSeq ?_
  refine cReg ?_
  refine mV hTT (.ptr 2 1) rfl ?_
  refine mV hTT (.d (.one (.v (.bool (decide (x < 0)))))) rfl ?_
  refine mV hTT (.ptr 3 1) rfl ?_
  refine mV hTT (.d (.one (.v (.bool (decide (y < 0)))))) rfl ?_
  refine mV hTT (.d (.one (.v (.bool ((decide (x < 0)) == (decide (y < 0))))))) rfl ?_
  refine mNil ?_
  refine tN ?_
  refine cCond rfl (fun hc1 => ?_) (fun hc1 => ?_)
  · skip
    refine cSeq ?_
    refine cDrawK hTT 8 (by kernel_rfl) (by kernel_rfl) ?_
    refine .cons (OpS.V (.ptr 2 0) rfl) ?_
    refine .cons (OpS.V (.d (.one (dn K x.natAbs))) rfl) ?_
    refine .cons (OpS.V (.ptr 3 0) rfl) ?_
    refine .cons (OpS.V (.d (.one (dn L y.natAbs))) rfl) ?_
    refine .cons (OpS.C0 (aNAdd (isd K x.natAbs) (isd L y.natAbs) (M := (max K L + 1)) (by omega) (by omega) (by omega)) rfl rfl rfl) ?_
    refine .cons (OpS.V (.ptr 2 1) rfl) ?_
    refine .cons (OpS.V (.d (.one (.v (.bool (decide (x < 0)))))) rfl) ?_
    refine .cons (OpS.C0 (aRMade (K := (max K L + 1)) (m := (x.natAbs + y.natAbs)) (neg := decide (x < 0)) rfl) rfl rfl rfl) ?_
    refine .nil ?_
    refine mS hTT 4 (.box 28 (rn (max K L + 1) (zv (decide (x < 0)) (x.natAbs + y.natAbs)))) rfl ?_
    refine mNil ?_
    refine tN ?_
    refine cRet ?_
    refine tR ?_
    exact rQ rfl (le_rn hM ((zv_add _ _ _ _ hc1).trans (by rw [← zvz x, ← zvz y])))
  · skip
    refine cSkip ?_
    refine tN ?_
    refine cSeq ?_
    refine cSeq ?_
    refine cReg ?_
    refine mV hTT (.ptr 2 0) rfl ?_
    refine mV hTT (.d (.one (dn K x.natAbs))) rfl ?_
    refine mV hTT (.ptr 3 0) rfl ?_
    refine mV hTT (.d (.one (dn L y.natAbs))) rfl ?_
    refine mC0 (aNCmp (isd K x.natAbs) (isd L y.natAbs) (by omega) (by omega)) rfl rfl rfl ?_
    refine mV hTT (.d (.one (.v (.bool (decide ((cmpZ x.natAbs y.natAbs) ≥ 0)))))) rfl ?_
    refine mNil ?_
    refine tN ?_
    refine cCond rfl (fun hc2 => ?_) (fun hc2 => ?_)
    · skip
      refine cSeq ?_
      refine cDrawK hTT 8 (by kernel_rfl) (by kernel_rfl) ?_
      refine .cons (OpS.V (.ptr 2 0) rfl) ?_
      refine .cons (OpS.V (.d (.one (dn K x.natAbs))) rfl) ?_
      refine .cons (OpS.V (.ptr 3 0) rfl) ?_
      refine .cons (OpS.V (.d (.one (dn L y.natAbs))) rfl) ?_
      refine .cons (OpS.C0 (aNSub (isd K x.natAbs) (isd L y.natAbs) (by have h := hc2; simp [cmpZ] at h; (repeat' split at h) <;> omega) (M := K) (by omega) (by omega) (by omega)) rfl rfl rfl) ?_
      refine .cons (OpS.V (.ptr 2 1) rfl) ?_
      refine .cons (OpS.V (.d (.one (.v (.bool (decide (x < 0)))))) rfl) ?_
      refine .cons (OpS.C0 (aRMade (K := K) (m := (x.natAbs - y.natAbs)) (neg := decide (x < 0)) rfl) rfl rfl rfl) ?_
      refine .nil ?_
      refine mS hTT 4 (.box 28 (rn K (zv (decide (x < 0)) (x.natAbs - y.natAbs)))) rfl ?_
      refine mNil ?_
      refine tN ?_
      refine cRet ?_
      refine tR ?_
      exact rQ rfl (le_rn (by omega) ((zv_sub1 _ _ _ _ hc1 (by have h := hc2; simp [cmpZ] at h; (repeat' split at h) <;> omega)).trans (by rw [← zvz x, ← zvz y])))
    · skip
      refine cSkip ?_
      refine tN ?_
      refine cSeq ?_
      refine cDrawK hTT 8 (by kernel_rfl) (by kernel_rfl) ?_
      refine .cons (OpS.V (.ptr 3 0) rfl) ?_
      refine .cons (OpS.V (.d (.one (dn L y.natAbs))) rfl) ?_
      refine .cons (OpS.V (.ptr 2 0) rfl) ?_
      refine .cons (OpS.V (.d (.one (dn K x.natAbs))) rfl) ?_
      refine .cons (OpS.C0 (aNSub (isd L y.natAbs) (isd K x.natAbs) (by have h := hc2; simp [cmpZ] at h; (repeat' split at h) <;> omega) (M := L) (by omega) (by omega) (by omega)) rfl rfl rfl) ?_
      refine .cons (OpS.V (.ptr 3 1) rfl) ?_
      refine .cons (OpS.V (.d (.one (.v (.bool (decide (y < 0)))))) rfl) ?_
      refine .cons (OpS.C0 (aRMade (K := L) (m := (y.natAbs - x.natAbs)) (neg := decide (y < 0)) rfl) rfl rfl rfl) ?_
      refine .nil ?_
      refine mS hTT 4 (.box 28 (rn L (zv (decide (y < 0)) (y.natAbs - x.natAbs)))) rfl ?_
      refine mNil ?_
      refine tN ?_
      refine cRet ?_
      exact rQ rfl (le_rn (by omega) ((zv_sub2 _ _ _ _ hc1 (by have h := hc2; simp [cmpZ] at h; (repeat' split at h) <;> omega)).trans (by rw [← zvz x, ← zvz y])))

set_option maxRecDepth 100000 in
set_option maxHeartbeats 4000000 in
theorem aRSub {a b : List Lf} {K L M : Nat} {x y : Int} (ha : IsR a K x) (hb : IsR b L y) (hM : max K L + 1 ≤ M := by decide) (hK : K ≤ 1073741824 := by decide) (hL : L ≤ 1073741824 := by decide) : ACall Try.prog 40 [.agg a, .agg b] (.d (.agg (rn M (x - y)))) := by
  refine ACall.le (dl (DV.g ha) (dl (DV.g hb) dl0)) AV.le.rfl ?_
  refine acallN hTT 9 [.cell 4 28] Try.func40 rfl rfl rfl rfl rfl ?_
  refine cSeq ?_
  refine cReg ?_
  refine mN hTT (.box 28 (rn K x)) rfl rfl rfl ?_
  refine mN hTT (.box 28 (rn L y)) rfl rfl rfl ?_
  refine mN hTT (.box 28 ([.v (.slice none 0 0), .v (.bool false)])) rfl rfl rfl ?_
  refine mNil ?_
  refine tN ?_
  refine cSeq ?_
  refine cDrawK hTT 4 (by kernel_rfl) (by kernel_rfl) ?_
  refine .cons (OpS.V (.d (.agg (rn K x))) rfl) ?_
  refine .cons (OpS.V (.d (.agg (rn L y))) rfl) ?_
  refine .cons (OpS.C0 (aRNeg (isr L y) (M := L) (by omega) (by omega)) rfl rfl rfl) ?_
  refine .cons (OpS.C0 (aRAdd (isr K x) (isr L (-y)) (M := (max K L + 1)) (by omega) (by omega) (by omega)) rfl rfl rfl) ?_
  refine .nil ?_
  refine mS hTT 4 (.box 28 (rn (max K L + 1) (x + (-y)))) rfl ?_
  refine mNil ?_
  refine tN ?_
  refine cRet ?_
  exact rQ rfl (le_rn hM (by omega))

set_option maxRecDepth 100000 in
set_option maxHeartbeats 4000000 in
theorem aRMul {a b : List Lf} {K L M : Nat} {x y : Int} (ha : IsR a K x) (hb : IsR b L y) (hM : K + L ≤ M := by decide) (hK : K ≤ 1073741824 := by decide) (hL : L ≤ 1073741824 := by decide) : ACall Try.prog 21 [.agg a, .agg b] (.d (.agg (rn M (x * y)))) := by
  refine ACall.le (dl (DV.g ha) (dl (DV.g hb) dl0)) AV.le.rfl ?_
  refine acallN hTT 16 [.cell 4 28] Try.func21 rfl rfl rfl rfl rfl ?_
  refine cSeq ?_
  refine cReg ?_
  refine mN hTT (.box 28 (rn K x)) rfl rfl rfl ?_
  refine mN hTT (.box 28 (rn L y)) rfl rfl rfl ?_
  refine mN hTT (.box 28 ([.v (.slice none 0 0), .v (.bool false)])) rfl rfl rfl ?_
  refine mNil ?_
  refine tN ?_
  refine cSeq ?_
  refine cDrawK hTT 11 (by kernel_rfl) (by kernel_rfl) ?_
  refine .cons (OpS.V (.ptr 2 0) rfl) ?_
  refine .cons (OpS.V (.d (.one (dn K x.natAbs))) rfl) ?_
  refine .cons (OpS.V (.ptr 3 0) rfl) ?_
  refine .cons (OpS.V (.d (.one (dn L y.natAbs))) rfl) ?_
  refine .cons (OpS.C0 (aNMul (isd K x.natAbs) (isd L y.natAbs) (M := (K + L)) (by omega) (by omega) (by omega)) rfl rfl rfl) ?_
  refine .cons (OpS.V (.ptr 2 1) rfl) ?_
  refine .cons (OpS.V (.d (.one (.v (.bool (decide (x < 0)))))) rfl) ?_
  refine .cons (OpS.V (.ptr 3 1) rfl) ?_
  refine .cons (OpS.V (.d (.one (.v (.bool (decide (y < 0)))))) rfl) ?_
  refine .cons (OpS.V (.d (.one (.v (.bool (!((decide (x < 0)) == (decide (y < 0)))))))) rfl) ?_
  refine .cons (OpS.C0 (aRMade (K := (K + L)) (m := (x.natAbs * y.natAbs)) (neg := !((decide (x < 0)) == (decide (y < 0)))) rfl) rfl rfl rfl) ?_
  refine .nil ?_
  refine mS hTT 4 (.box 28 (rn (K + L) (zv (!((decide (x < 0)) == (decide (y < 0)))) (x.natAbs * y.natAbs)))) rfl ?_
  refine mNil ?_
  refine tN ?_
  refine cRet ?_
  exact rQ rfl (le_rn hM ((zv_mul _ _ _ _).trans (by rw [← zvz x, ← zvz y])))

set_option maxRecDepth 100000 in
set_option maxHeartbeats 4000000 in
theorem aRSign {a : List Lf} {K : Nat} {x : Int} (ha : IsR a K x) : ACall Try.prog 66 [.agg a] (.d (.one (.v (.int .i64 (sgn x))))) := by
  refine ACall.le (dl (DV.g ha) dl0) AV.le.rfl ?_
  refine acallN hTT 11 [.tmp 2] Try.func66 rfl rfl rfl rfl rfl ?_
  refine cSeq ?_
  refine cReg ?_
  refine mN hTT (.box 28 (rn K x)) rfl rfl rfl ?_
  refine mV hTT _ rfl ?_
  refine mNil ?_
  refine tN ?_
  refine cSeq ?_
  refine cBlock ?_
  refine cSeq ?_
  refine cReg ?_
  refine mV hTT (.ptr 1 0) rfl ?_
  refine mV hTT (.d (.one (dn K x.natAbs))) rfl ?_
  refine mV hTT (.d (.one (.v (.int .i64 ((digs4 x.natAbs).length : Int))))) rfl ?_
  refine mV hTT (.d (.one (.v (.bool (((digs4 x.natAbs).length : Int) == 0))))) rfl ?_
  refine mV hTT _ rfl ?_
  refine mNil ?_
  refine tN ?_
  refine cCond rfl (fun hc1 => ?_) (fun hc1 => ?_)
  · skip
    refine cSeq ?_
    refine cReg ?_
    refine mV hTT _ rfl ?_
    refine mNil ?_
    refine tN ?_
    refine cRet ?_
    refine bR ?_
    refine tR ?_
    exact rQ rfl (le_int (by have h0 := digs_len x.natAbs; simp only [beq_iff_eq, beq_eq_false_iff_ne, ne_eq, bne_iff_ne, bne_eq_false_iff_eq, decide_eq_true_eq, decide_eq_false_iff_not] at hc1; unfold sgn; (repeat' split) <;> omega))
  · skip
    refine cSeq ?_
    refine cReg ?_
    refine mV hTT (.ptr 1 1) rfl ?_
    refine mV hTT (.d (.one (.v (.bool (decide (x < 0)))))) rfl ?_
    refine mV hTT _ rfl ?_
    refine mNil ?_
    refine tN ?_
    refine cCond rfl (fun hc2 => ?_) (fun hc2 => ?_)
    · skip
      refine cSeq ?_
      refine cReg ?_
      refine mV hTT _ rfl ?_
      refine mNil ?_
      refine tN ?_
      refine cRet ?_
      refine bR ?_
      refine tR ?_
      exact rQ rfl (le_int (by have h0 := digs_len x.natAbs; simp only [beq_iff_eq, beq_eq_false_iff_ne, ne_eq, bne_iff_ne, bne_eq_false_iff_eq, decide_eq_true_eq, decide_eq_false_iff_not] at hc1 hc2; unfold sgn; (repeat' split) <;> omega))
    · skip
      refine cSkip ?_
      refine bN ?_
      refine tN ?_
      refine cSeq ?_
      refine cReg ?_
      refine mV hTT _ rfl ?_
      refine mNil ?_
      refine tN ?_
      refine cRet ?_
      exact rQ rfl (le_int (by have h0 := digs_len x.natAbs; simp only [beq_iff_eq, beq_eq_false_iff_ne, ne_eq, bne_iff_ne, bne_eq_false_iff_eq, decide_eq_true_eq, decide_eq_false_iff_not] at hc1 hc2; unfold sgn; (repeat' split) <;> omega))

set_option maxRecDepth 100000 in
set_option maxHeartbeats 4000000 in
theorem aRZero {a : List Lf} {K : Nat} {x : Int} (ha : IsR a K x) : ACall Try.prog 16 [.agg a] (.d (.one (.v (.bool (decide (x = 0)))))) := by
  refine ACall.le (dl (DV.g ha) dl0) AV.le.rfl ?_
  refine acallN hTT 7 [.tmp 2] Try.func16 rfl rfl rfl rfl rfl ?_
  refine cSeq ?_
  refine cReg ?_
  refine mN hTT (.box 28 (rn K x)) rfl rfl rfl ?_
  refine mV hTT _ rfl ?_
  refine mNil ?_
  refine tN ?_
  refine cSeq ?_
  refine cReg ?_
  refine mV hTT (.ptr 1 0) rfl ?_
  refine mV hTT (.d (.one (dn K x.natAbs))) rfl ?_
  refine mV hTT (.d (.one (.v (.int .i64 ((digs4 x.natAbs).length : Int))))) rfl ?_
  refine mV hTT (.d (.one (.v (.bool (((digs4 x.natAbs).length : Int) == 0))))) rfl ?_
  refine mV hTT _ rfl ?_
  refine mNil ?_
  refine tN ?_
  refine cRet ?_
  exact rQ rfl (le_bool (by have h0 := digs_len x.natAbs; rw [Bool.eq_iff_iff, beq_iff_eq, decide_eq_true_eq]; omega))

set_option maxRecDepth 100000 in
set_option maxHeartbeats 4000000 in
theorem aRCmp {a b : List Lf} {K L : Nat} {x y : Int} (ha : IsR a K x) (hb : IsR b L y) (hK : K ≤ 1000000000 := by decide) (hL : L ≤ 1000000000 := by decide) : ACall Try.prog 30 [.agg a, .agg b] (.d (.one (.v (.int .i64 (cmpZ x y))))) := by
  refine ACall.le (dl (DV.g ha) (dl (DV.g hb) dl0)) AV.le.rfl ?_
  refine acallN hTT 9 [.tmp 4] Try.func30 rfl rfl rfl rfl rfl ?_
  refine cSeq ?_
  refine cReg ?_
  refine mN hTT (.box 28 (rn K x)) rfl rfl rfl ?_
  refine mN hTT (.box 28 (rn L y)) rfl rfl rfl ?_
  refine mV hTT _ rfl ?_
  refine mNil ?_
  refine tN ?_
  refine cSeq ?_
  refine cReg ?_
  refine mV hTT (.d (.agg (rn K x))) rfl ?_
  refine mV hTT (.d (.agg (rn L y))) rfl ?_
  refine mC0 (aRSub (isr K x) (isr L y) (M := (max K L + 1)) (by omega) (by omega) (by omega)) rfl rfl rfl ?_
  refine mC0 (aRSign (isr (max K L + 1) (x - y))) rfl rfl rfl ?_
  refine mV hTT _ rfl ?_
  refine mNil ?_
  refine tN ?_
  refine cRet ?_
  exact rQ rfl (le_int (by simp only [sgn, cmpZ]; (repeat' split) <;> omega))

end Go.Proofs.Ytkcagkcphobmfaa
