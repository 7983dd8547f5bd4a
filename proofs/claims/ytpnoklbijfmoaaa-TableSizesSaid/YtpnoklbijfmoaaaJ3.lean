/-
  POLYNOMIALS, by the machine (3): the program's.
-/
import Derived.Test.YtpnoklbijfmoaaaJ2
import Derived.Test.YtpnoklbijfmoaaaJ1
import Derived.Test.YtpnoklbijfmoaaaJ0
import Derived.OpenShut
import Derived.Deep.Slices
import Derived.ChangeOld
import Derived.ChangeSame
import Derived.Lib.SmallJoins
set_option linter.unusedVariables false
set_option linter.unusedSimpArgs false
namespace Go.Proofs.Ytpnoklbijfmoaaa
open Go.RowKit

def upd (c : Nat → Int) (i : Nat) : Nat → Int := fun p => if p < i then c p else 0
theorem upd_self {c : Nat → Int} {i : Nat} : c i = upd c (i + 1) i := (if_pos (Nat.lt_succ_self i)).symm
theorem upd_ne {c : Nat → Int} {i p : Nat} (h : p ≠ i) : upd c i p = upd c (i + 1) p := by
  unfold upd
  by_cases h1 : p < i
  · rw [if_pos h1, if_pos (by omega)]
  · rw [if_neg h1, if_neg (by omega)]
theorem fx_pos {n k : Nat} {f : Nat → Bool × List Nat} (h : k < n) : fx n f k = f k := if_pos h
theorem fx_neg {n k : Nat} {f : Nat → Bool × List Nat} (h : ¬ k < n) : fx n f k = (false, []) := if_neg h
theorem nil_at {K : Nat} : AV.le (.d (.agg [.v (.bool false), .v (.slice none 0 0)])) (.d (.agg [.v (.bool false), lr K []])) := le_agg fun B w cs h => match cs, h with | [_, _], ⟨h1, h2, h3⟩ => ⟨h1, nil_lr K (fun _ => none) B w _ h2, h3⟩
set_option maxRecDepth 100000 in
set_option maxHeartbeats 4000000 in
theorem aPNorm {a : Lf} {K n : Nat} {c : Nat → Int} (ha : IsP a K n c) (hn : n ≤ 1000000 := by decide) (hK : K ≤ 1000000000 := by decide) : ACall Try.prog 25 [.one a] (.d (.one (prow K (dg c (n)) c))) := by
  obtain ⟨⟨fa, ha, ea⟩, za⟩ := ha
  refine ACall.le (dl (DV.l ha) dl0) AV.le.rfl ?_
  refine acallN hTT 24 [.tmp 2] Try.func25 rfl rfl rfl rfl rfl ?_
  refine cSeq ?_
  refine cReg ?_
  refine mV hTT _ rfl ?_
  refine mNil ?_
  refine tN ?_
  refine cSeq ?_
  refine cReg ?_
  refine mV hTT _ rfl ?_
  refine mV hTT (.d (.one (.v (.int .i64 (n : Int))))) rfl ?_
  refine mN hTT (.row 28 2 n (fun _ j => .v ((([Value.bool false, Value.slice none 0 0] : List Value)[j]?).getD undef))) (mkO (zl := (n : Int)) (zc := (n : Int)) (bts := 32) rfl rfl rfl rfl rfl (by omega) (by omega) rfl rfl rfl (by omega) (by omega) rfl) rfl rfl ?_
  refine mV hTT _ rfl ?_
  refine mNil ?_
  refine tN ?_
  refine cSeq ?_
  refine cSeq ?_
  refine cReg ?_
  refine mV hTT _ rfl ?_
  refine mV hTT (.d (.one (.v (.int .i64 (n : Int))))) rfl ?_
  refine mV hTT _ rfl ?_
  refine mNil ?_
  refine tN ?_
  refine cBlock ?_
  refine cLoop (ι := Nat) (fun (i : Nat) => ⟨24, [(9, .d (.one (.row 2 n (ael K fa)))), (10, .d (.one (.v (.int .i64 (n : Int))))), (11, .d (.one (.v (.int .i64 ((i : Nat) : Int))))), (3, .own 8)], [(8, .row 28 2 n (zel K (upd c i)))]⟩) (fun (i : Nat) => i ≤ n) (fun (i : Nat) => n - i) 0 (Nat.zero_le _) (wk (sl := [(9, .d (.one (.row 2 n (ael K fa)))), (10, .d (.one (.v (.int .i64 (n : Int))))), (11, .d (.one (.v (.int .i64 ((0 : Nat) : Int))))), (3, .own 8)]) (hp := [(8, .row 28 2 n (zel K (upd c 0)))]) rfl ⟨hs rfl, hs rfl, hs rfl, hs rfl, trivial⟩ ⟨ho' rfl (leo_zero (fun i _ => if_neg (Nat.not_lt_zero _))), trivial⟩ rfl) ?_
  rintro i hI
  have hi : i ≤ n := hI
  show AW Try.prog _ _ ⟨24, [(9, .d (.one (.row 2 n (ael K fa)))), (10, .d (.one (.v (.int .i64 (n : Int))))), (11, .d (.one (.v (.int .i64 ((i : Nat) : Int))))), (3, .own 8)], [(8, .row 28 2 n (zel K (upd c i)))]⟩
  refine cSeq ?_
  refine cReg ?_
  refine mV hTT (.d (.one (.v (.bool (decide (((i : Nat) : Int) < (n : Int))))))) rfl ?_
  refine mNil ?_
  refine tN ?_
  refine cSeq ?_
  refine cCond rfl (fun hc1 => ?_) (fun hc1 => ?_)
  · skip
    refine cSkip ?_
    refine tN ?_
    refine cSeq ?_
    refine cBlock ?_
    refine cSeq ?_
    have hin : i < n := by have h0 := of_decide_eq_true hc1; omega
    refine cReg ?_
    refine mV hTT _ rfl ?_
    refine mV hTT (.d (.one (.at 2 ((ael K fa) i)))) (ixR (el := (ael K fa)) (z := ((i : Nat) : Int)) (n := n) rfl rfl rfl rfl rfl rfl (by omega) (by omega)) ?_
    refine mV hTT (.d (.agg ([.v (.bool ((fa i).1)), lr K ((fa i).2)]))) rfl ?_
    refine mN hTT (.box 28 ([.v (.bool false), .v (.slice none 0 0)])) rfl rfl rfl ?_
    refine mV hTT _ rfl ?_
    refine mS hTT 5 (.box 28 ([.v (.bool ((fa i).1)), lr K ((fa i).2)])) rfl ?_
    refine mNil ?_
    refine tN ?_
    refine cReg ?_
    refine mV hTT _ rfl ?_
    refine mV hTT _ rfl ?_
    refine mV hTT (.d (.agg ([.v (.bool ((fa i).1)), lr K ((fa i).2)]))) rfl ?_
    refine mC0 (aNorm ⟨_, _, fun _ _ _ h => h, ea i (by omega)⟩ (by omega)) rfl rfl rfl ?_
    refine mV hTT (.eptr 8 2 i 0) (ixO (z := ((i : Nat) : Int)) (n := n) rfl rfl rfl rfl rfl rfl rfl (by omega) (by omega)) ?_
    refine mS hTT 8 (.row 28 2 n (fun p' q' => if p' = i then ((zn K (c i))[q']?).getD (.v undef) else (zel K (upd c i)) p' q')) rfl ?_
    refine mNil ?_
    refine bN ?_
    refine tN ?_
    refine cReg ?_
    refine mV hTT (.d (.one (.v (.int .i64 (IntKind.i64.wrap (((i : Nat) : Int) + 1)))))) rfl ?_
    refine mV hTT _ rfl ?_
    refine mNil ?_
    exact ⟨(i + 1), by omega, by omega, wk (sl := [(9, .d (.one (.row 2 n (ael K fa)))), (10, .d (.one (.v (.int .i64 (n : Int))))), (11, .d (.one (.v (.int .i64 (((i + 1) : Nat) : Int))))), (3, .own 8)]) (hp := [(8, .row 28 2 n (zel K (upd c (i + 1))))]) rfl ⟨hs rfl, hs rfl, hs' rfl (le_int (inc64 (by omega))), hs rfl, trivial⟩ ⟨ho' rfl (st_z (Nat.le_refl _) (Nat.le_refl _) upd_self (fun p _ hp => upd_ne hp)), trivial⟩ rfl⟩
  · skip
    refine cExit ?_
    refine tE ?_
    refine tE ?_
    refine bE ?_
    refine tN ?_
    refine cSeq ?_
    have hie : n = i := by have h0 := of_decide_eq_false hc1; omega
    subst hie
    refine AW.wk (wkRow 8 rfl) ?_
    refine cView 3 (.d (.one (.row 2 n (zel K c)))) rfl (le_one (prow_le (Nat.le_refl _) (fun i hi => if_pos hi))) ?_
    refine cReg ?_
    refine mV hTT _ rfl ?_
    refine mC0 (aPCut (K := K) (n := n) (c := c) (by omega)) rfl rfl rfl ?_
    refine mV hTT _ rfl ?_
    refine mNil ?_
    refine tN ?_
    refine cRet ?_
    exact rQ rfl (AV.le.rfl)

set_option maxRecDepth 100000 in
set_option maxHeartbeats 4000000 in
theorem aPOf {a : Lf} {n : Nat} {c : Nat → Int} (ha : IsI a n c) (hb : ∀ i, i < n → -9223372036854775808 ≤ c i ∧ c i ≤ 9223372036854775807) (hn : n ≤ 1000000 := by decide) : ACall Try.prog 11 [.one a] (.d (.one (prow 2 (dg c (n)) c))) := by
  obtain ⟨ha, za⟩ := ha
  refine ACall.le (dl (DV.l ha) dl0) AV.le.rfl ?_
  refine acallN hTT 24 [.tmp 2] Try.func11 rfl rfl rfl rfl rfl ?_
  refine cSeq ?_
  refine cReg ?_
  refine mV hTT _ rfl ?_
  refine mNil ?_
  refine tN ?_
  refine cSeq ?_
  refine cReg ?_
  refine mV hTT _ rfl ?_
  refine mV hTT (.d (.one (.v (.int .i64 (n : Int))))) rfl ?_
  refine mN hTT (.row 28 2 n (fun _ j => .v ((([Value.bool false, Value.slice none 0 0] : List Value)[j]?).getD undef))) (mkO (zl := (n : Int)) (zc := (n : Int)) (bts := 32) rfl rfl rfl rfl rfl (by omega) (by omega) rfl rfl rfl (by omega) (by omega) rfl) rfl rfl ?_
  refine mV hTT _ rfl ?_
  refine mNil ?_
  refine tN ?_
  refine cSeq ?_
  refine cSeq ?_
  refine cReg ?_
  refine mV hTT _ rfl ?_
  refine mV hTT (.d (.one (.v (.int .i64 (n : Int))))) rfl ?_
  refine mV hTT _ rfl ?_
  refine mNil ?_
  refine tN ?_
  refine cBlock ?_
  refine cLoop (ι := Nat) (fun (i : Nat) => ⟨24, [(9, .d (.one (.row 1 n (fun i _ => .v (.int .i64 (c i)))))), (10, .d (.one (.v (.int .i64 (n : Int))))), (11, .d (.one (.v (.int .i64 ((i : Nat) : Int))))), (3, .own 8)], [(8, .row 28 2 n (zel 2 (upd c i)))]⟩) (fun (i : Nat) => i ≤ n) (fun (i : Nat) => n - i) 0 (Nat.zero_le _) (wk (sl := [(9, .d (.one (.row 1 n (fun i _ => .v (.int .i64 (c i)))))), (10, .d (.one (.v (.int .i64 (n : Int))))), (11, .d (.one (.v (.int .i64 ((0 : Nat) : Int))))), (3, .own 8)]) (hp := [(8, .row 28 2 n (zel 2 (upd c 0)))]) rfl ⟨hs rfl, hs rfl, hs rfl, hs rfl, trivial⟩ ⟨ho' rfl (leo_zero (fun i _ => if_neg (Nat.not_lt_zero _))), trivial⟩ rfl) ?_
  rintro i hI
  have hi : i ≤ n := hI
  show AW Try.prog _ _ ⟨24, [(9, .d (.one (.row 1 n (fun i _ => .v (.int .i64 (c i)))))), (10, .d (.one (.v (.int .i64 (n : Int))))), (11, .d (.one (.v (.int .i64 ((i : Nat) : Int))))), (3, .own 8)], [(8, .row 28 2 n (zel 2 (upd c i)))]⟩
  refine cSeq ?_
  refine cReg ?_
  refine mV hTT (.d (.one (.v (.bool (decide (((i : Nat) : Int) < (n : Int))))))) rfl ?_
  refine mNil ?_
  refine tN ?_
  refine cSeq ?_
  refine cCond rfl (fun hc1 => ?_) (fun hc1 => ?_)
  · skip
    refine cSkip ?_
    refine tN ?_
    refine cSeq ?_
    refine cBlock ?_
    refine cSeq ?_
    have hin : i < n := by have h0 := of_decide_eq_true hc1; omega
    refine cReg ?_
    refine mV hTT _ rfl ?_
    refine mV hTT (.d (.one (.at 1 ((fun i _ => .v (.int .i64 (c i))) i)))) (ixR (el := (fun i _ => .v (.int .i64 (c i)))) (z := ((i : Nat) : Int)) (n := n) rfl rfl rfl rfl rfl rfl (by omega) (by omega)) ?_
    refine mV hTT (.d (.one (.v (.int .i64 (c i))))) rfl ?_
    refine mV hTT _ rfl ?_
    refine mV hTT _ rfl ?_
    refine mNil ?_
    refine tN ?_
    refine cReg ?_
    refine mV hTT _ rfl ?_
    refine mV hTT _ rfl ?_
    refine mV hTT _ rfl ?_
    refine mC0 (aOf (n := c i) (hb i hin).1 (hb i hin).2) rfl rfl rfl ?_
    refine mV hTT (.eptr 8 2 i 0) (ixO (z := ((i : Nat) : Int)) (n := n) rfl rfl rfl rfl rfl rfl rfl (by omega) (by omega)) ?_
    refine mS hTT 8 (.row 28 2 n (fun p' q' => if p' = i then ((zn 2 (c i))[q']?).getD (.v undef) else (zel 2 (upd c i)) p' q')) rfl ?_
    refine mNil ?_
    refine bN ?_
    refine tN ?_
    refine cReg ?_
    refine mV hTT (.d (.one (.v (.int .i64 (IntKind.i64.wrap (((i : Nat) : Int) + 1)))))) rfl ?_
    refine mV hTT _ rfl ?_
    refine mNil ?_
    exact ⟨(i + 1), by omega, by omega, wk (sl := [(9, .d (.one (.row 1 n (fun i _ => .v (.int .i64 (c i)))))), (10, .d (.one (.v (.int .i64 (n : Int))))), (11, .d (.one (.v (.int .i64 (((i + 1) : Nat) : Int))))), (3, .own 8)]) (hp := [(8, .row 28 2 n (zel 2 (upd c (i + 1))))]) rfl ⟨hs rfl, hs rfl, hs' rfl (le_int (inc64 (by omega))), hs rfl, trivial⟩ ⟨ho' rfl (st_z (Nat.le_refl _) (Nat.le_refl _) upd_self (fun p _ hp => upd_ne hp)), trivial⟩ rfl⟩
  · skip
    refine cExit ?_
    refine tE ?_
    refine tE ?_
    refine bE ?_
    refine tN ?_
    refine cSeq ?_
    have hie : n = i := by have h0 := of_decide_eq_false hc1; omega
    subst hie
    refine AW.wk (wkRow 8 rfl) ?_
    refine cView 3 (.d (.one (.row 2 n (zel 2 c)))) rfl (le_one (prow_le (Nat.le_refl _) (fun i hi => if_pos hi))) ?_
    refine cReg ?_
    refine mV hTT _ rfl ?_
    refine mC0 (aPCut (K := 2) (n := n) (c := c) (by omega)) rfl rfl rfl ?_
    refine mV hTT _ rfl ?_
    refine mNil ?_
    refine tN ?_
    refine cRet ?_
    exact rQ rfl (AV.le.rfl)

end Go.Proofs.Ytpnoklbijfmoaaa

/-
  POLYNOMIALS, by the machine (4): products, sums of many, Move.
-/
set_option linter.unusedVariables false
set_option linter.unusedSimpArgs false
namespace Go.Proofs.Ytpnoklbijfmoaaa
open Go.RowKit

end Go.Proofs.Ytpnoklbijfmoaaa

/-
  POLYNOMIALS, by the machine (5): sums and products of many, Move; the law's Cut, is, wakes.
-/
set_option linter.unusedVariables false
set_option linter.unusedSimpArgs false
namespace Go.Proofs.Ytpnoklbijfmoaaa
open Go.RowKit

end Go.Proofs.Ytpnoklbijfmoaaa

/-
  PLAIN LAW of chapter 5: Horner's rule over rationals and over whole numbers. No condition; nothing of the program.
-/
set_option linter.unusedVariables false
set_option linter.unusedSimpArgs false
namespace Go.Proofs.Ytpnoklbijfmoaaa
open Go.RowKit

def linQ (q r : Rat) : Nat → Rat := fun i => if i = 0 then q else if i = 1 then r else 0
def oneQ (q : Rat) : Nat → Rat := fun i => if i = 0 then q else 0
theorem linQ_z {q r : Rat} : ∀ i, 2 ≤ i → linQ q r i = 0 := fun i hi => by unfold linQ; rw [if_neg (by omega), if_neg (by omega)]
theorem oneQ_z {q : Rat} : ∀ i, 1 ≤ i → oneQ q i = 0 := fun i hi => if_neg (by omega)
def hvQ (a : Nat → Rat) (q : Rat) (top : Nat) : Nat → Nat → Rat
  | 0 => fun _ => 0
  | s + 1 => faddQ (conv (hvQ a q top s) (linQ q (((1 : Int) : Int) : Rat))) (oneQ (a (top - 1 - s)))
theorem hvQ_z {a : Nat → Rat} {q : Rat} {top : Nat} : ∀ (s j : Nat), s ≤ j → hvQ a q top s j = 0
  | 0, _, _ => rfl
  | s + 1, j, hj => by
    show conv (hvQ a q top s) (linQ q _) j + oneQ _ j = 0
    rw [conv_beyondQ (n := s) (m := 2) (hvQ_z s) linQ_z (by omega), oneQ_z j (by omega)]; exact Rat.add_zero 0
def scQ (w : Nat → Rat) (q : Rat) : Nat → Nat → Rat
  | 0 => w
  | j + 1 => fsclQ (scQ w q j) q
theorem scQ_z {w : Nat → Rat} {q : Rat} {n : Nat} (h : ∀ i, n ≤ i → w i = 0) : ∀ j i, n ≤ i → scQ w q j i = 0
  | 0 => h
  | j + 1 => fsclQ_z (scQ_z h j)
theorem scQ_pow {w : Nat → Rat} {q : Rat} {i : Nat} : ∀ j, scQ w q j i = w i * q ^ j
  | 0 => by show w i = _; rw [Rat.pow_zero, Rat.mul_one]
  | j + 1 => by show scQ w q j i * q = _; rw [scQ_pow j, Rat.pow_succ, Rat.mul_assoc]

theorem cv_low {a b : Nat → Int} {j : Nat} (hb : ∀ i, 2 ≤ i → b i = 0) : ∀ m, m + 1 ≤ j → cv a b m j = 0 := fun m hm => conv_z fun i hi hij => by rw [hb (j - i) (by omega)]; simp
theorem cv_lowQ {a b : Nat → Rat} {j : Nat} (hb : ∀ i, 2 ≤ i → b i = 0) : ∀ m, m + 1 ≤ j → cv a b m j = 0 := fun m hm => conv_zQ fun i hi hij => by rw [hb (j - i) (by omega)]; grind
theorem conv_lin {a : Nat → Int} {x y : Int} : ∀ j, conv a (lin x y) j = a j * x + (if j = 0 then 0 else a (j - 1) * y)
  | 0 => by
    show cv a (lin x y) 0 0 + (if 0 ≤ 0 then a 0 * lin x y (0 - 0) else 0) = _
    rw [if_pos (Nat.le_refl _), if_pos rfl]
    show 0 + a 0 * x = a 0 * x + 0
    omega
  | j + 1 => by
    show (cv a (lin x y) j (j + 1) + (if j ≤ j + 1 then a j * lin x y (j + 1 - j) else 0)) + (if j + 1 ≤ j + 1 then a (j + 1) * lin x y (j + 1 - (j + 1)) else 0) = _
    rw [cv_low lin_z j (Nat.le_refl _), if_pos (by omega), if_pos (Nat.le_refl _), if_neg (by omega), Nat.sub_self, show j + 1 - j = 1 by omega, Nat.add_sub_cancel]
    show (0 + a j * y) + a (j + 1) * x = a (j + 1) * x + a j * y
    omega
theorem conv_linQ {a : Nat → Rat} {x y : Rat} : ∀ j, conv a (linQ x y) j = a j * x + (if j = 0 then 0 else a (j - 1) * y)
  | 0 => by
    show cv a (linQ x y) 0 0 + (if 0 ≤ 0 then a 0 * linQ x y (0 - 0) else 0) = _
    rw [if_pos (Nat.le_refl _), if_pos rfl]
    show 0 + a 0 * x = a 0 * x + 0
    grind
  | j + 1 => by
    show (cv a (linQ x y) j (j + 1) + (if j ≤ j + 1 then a j * linQ x y (j + 1 - j) else 0)) + (if j + 1 ≤ j + 1 then a (j + 1) * linQ x y (j + 1 - (j + 1)) else 0) = _
    rw [cv_lowQ linQ_z j (Nat.le_refl _), if_pos (by omega), if_pos (Nat.le_refl _), if_neg (by omega), Nat.sub_self, show j + 1 - j = 1 by omega, Nat.add_sub_cancel]
    show (0 + a j * y) + a (j + 1) * x = a (j + 1) * x + a j * y
    grind
theorem mkR_div {x y : Int} (hy : ¬ y = 0) : mkR x y * (y : Rat) = (x : Rat) := by
  rw [← mkR_int y, ← mkR_int x, mkR_ne hy, mkR_ne (by decide), mkR_ne (by decide), Rat.divInt_mul_divInt, Int.mul_one, Int.mul_comm x y]
  have h := Rat.divInt_mul_left (n := x) (d := 1) hy
  rwa [Int.mul_one] at h
theorem cast_pow (y : Int) : ∀ s : Nat, ((y ^ s : Int) : Rat) = (y : Rat) ^ s
  | 0 => rfl
  | s + 1 => by rw [Int.pow_succ, Rat.intCast_mul, cast_pow y s, Rat.pow_succ]
/-- Step by step: over whole numbers as over rationals, but for a power of the denominator. -/
theorem mv_hv {a : Nat → Int} {x y : Int} {top : Nat} (hy : ¬ y = 0) : ∀ s i, ((mvZ a x y top s i : Int) : Rat) * (y : Rat) = (y : Rat) ^ s * hvQ (rc a) (mkR x y) top s i
  | 0, i => by show ((0 : Int) : Rat) * _ = _ * (0 : Rat); rw [Rat.mul_zero]; exact Rat.zero_mul _
  | s + 1, i => by
    have h0 := mv_hv (a := a) (x := x) (y := y) (top := top) hy s i
    have h1 := mv_hv (a := a) (x := x) (y := y) (top := top) hy s (i - 1)
    have hq := mkR_div (x := x) hy
    show ((conv (mvZ a x y top s) (lin x y) i + onez (a (top - 1 - s) * y ^ s) i : Int) : Rat) * (y : Rat) = (y : Rat) ^ (s + 1) * (conv (hvQ (rc a) (mkR x y) top s) (linQ (mkR x y) (((1 : Int) : Int) : Rat)) i + oneQ (rc a (top - 1 - s)) i)
    rw [conv_lin, conv_linQ, Rat.intCast_add, Rat.intCast_add, Rat.intCast_mul, Rat.pow_succ]
    have h1c : (((1 : Int) : Int) : Rat) = 1 := rfl
    rw [h1c]
    have hrc : rc a (top - 1 - s) = ((a (top - 1 - s) : Int) : Rat) := rfl
    rw [hrc]
    unfold onez oneQ
    by_cases hi : i = 0
    · subst hi
      rw [if_pos rfl, if_pos rfl, if_pos rfl, if_pos rfl, Rat.intCast_mul, cast_pow]
      have h00 : ((0 : Int) : Rat) = 0 := rfl
      rw [h00]
      grind
    · rw [if_neg hi, if_neg hi, if_neg hi, if_neg hi, Rat.intCast_mul]
      have h00 : ((0 : Int) : Rat) = 0 := rfl
      rw [h00]
      grind
theorem pow_ne {q : Rat} (h : q ≠ 0) : ∀ s : Nat, q ^ s ≠ 0
  | 0 => by rw [Rat.pow_zero]; decide
  | s + 1 => by rw [Rat.pow_succ]; intro e; rcases Rat.mul_eq_zero.1 e with e | e; exact pow_ne h s e; exact h e
theorem mv_end {a : Nat → Int} {x y : Int} {n : Nat} (hy : ¬ y = 0) (i : Nat) : scQ (hvQ (rc a) (mkR x y) n n) (mkR y 1) (n - 1) i = rc (mvZ a x y n n) i := by
  rw [scQ_pow, mkR_int]
  show _ = ((mvZ a x y n n i : Int) : Rat)
  have h := mv_hv (a := a) (x := x) (y := y) (top := n) hy n i
  have hy' : (y : Rat) ≠ 0 := fun e => hy (Rat.intCast_eq_zero_iff.1 e)
  cases n with
  | zero => show (0 : Rat) * _ = ((0 : Int) : Rat); exact Rat.zero_mul _
  | succ s =>
    rw [Nat.add_sub_cancel]
    rw [Rat.pow_succ] at h
    grind
theorem dg_fun {α : Type} [DecidableEq α] [OfNat α 0] {c d : Nat → α} (h : ∀ i, c i = d i) (n : Nat) : dg c n = dg d n := by rw [funext h]
/-- The bounds in PolyMoves. -/
def KW : Nat → Nat
  | 0 => 64
  | s + 1 => (s + 2) * (KW s + 64 + 66) + 70
theorem KW_le : ∀ s, s ≤ 6 → KW s ≤ 5000000 := by decide
end Go.Proofs.Ytpnoklbijfmoaaa

/-
  RATIONALS of the program, in the abstract machine's words. No condition; nothing of the program.
-/
set_option linter.unusedVariables false
set_option linter.unusedSimpArgs false
namespace Go.Proofs.Ytpnoklbijfmoaaa
open Go.RowKit

theorem ist_tn (K : Nat) (q : Rat) : IsT (tn K q) K q.num q.den := ⟨decide (q.num < 0), limbs q.num.natAbs, decide ((q.den : Int) < 0), limbs (Int.natAbs (q.den : Int)), fun _ _ _ h => h, by rw [val_limbs]; exact zv_natAbs _, by rw [val_limbs]; exact zv_natAbs _⟩
theorem istn (K : Nat) (q : Rat) : IsTN (tn K q) K q := fun _ _ _ h => h
theorem tn_mono {K L : Nat} {q : Rat} (h : K ≤ L) : ∀ B w cs, LsR B w (tn K q) cs → LsR B w (tn L q) cs
  | B, w, [a, b, c, d], ⟨h1, h2, h3, h4, h5⟩ => ⟨h1, lr_mono h _ _ _ h2, h3, lr_mono h _ _ _ h4, h5⟩
theorem le_tn {K L : Nat} {z y : Rat} (h : K ≤ L) (e : z = y) : AV.le (.d (.agg (tn K z))) (.d (.agg (tn L y))) := by subst e; exact le_agg (tn_mono h)
theorem leo_tn {t : TypeId} {K L : Nat} {z y : Rat} (h : K ≤ L) (e : z = y) : AO.le (.box t (tn K z)) (.box t (tn L y)) := by subst e; exact leo_box (tn_mono h)
theorem le_tn2 {K L M : Nat} {n d : Int} {q : Rat} (h1 : K ≤ M) (h2 : L ≤ M) (e1 : n = q.num) (e2 : d = q.den) : AV.le (.d (.agg (zn K n ++ zn L d))) (.d (.agg (tn M q))) := by
  subst e1; subst e2
  refine le_agg fun B w cs h => ?_
  match cs, h with
  | [a, b, c, d], ⟨h1', h2', h3', h4', h5'⟩ => exact ⟨h1', lr_mono h1 _ _ _ h2', h3', lr_mono h2 _ _ _ h4', h5'⟩
theorem isp2a {K L : Nat} {s t : Bool} {xs ys : List Nat} {x y : Int} {el : Nat → Nat → Lf} (hx : zv s (val xs) = x) (hy : zv t (val ys) = y) (h0 : el 0 0 = .v (.bool s) := by rfl) (h1 : el 0 1 = lr K xs := by rfl) (h2 : el 1 0 = .v (.bool t) := by rfl) (h3 : el 1 1 = lr L ys := by rfl) : IsP (.row 2 2 el) (max K L) 2 (lin x y) := by
  refine ⟨⟨fun i => if i = 0 then (s, xs) else (t, ys), row_le fun i hi j hj B w v hv => ?_, fun i hi => ?_⟩, lin_z⟩
  · match i, hi, j, hj with
    | 0, _, 0, _ => rw [h0] at hv; exact hv
    | 0, _, 1, _ => rw [h1] at hv; exact lr_mono (Nat.le_max_left _ _) _ _ _ hv
    | 1, _, 0, _ => rw [h2] at hv; exact hv
    | 1, _, 1, _ => rw [h3] at hv; exact lr_mono (Nat.le_max_right _ _) _ _ _ hv
  · match i, hi with
    | 0, _ => exact hx
    | 1, _ => exact hy
theorem gcdN_two {x y : Int} : gcdN (lin x y) 2 = Nat.gcd x.natAbs y.natAbs := by
  show Nat.gcd (Nat.gcd 0 x.natAbs) y.natAbs = _
  rw [Nat.gcd_zero_left]
theorem mkR_posN {n d : Int} (h : 0 < d) : (Rat.divInt n d).num = n / ((gcdN (lin n d) 2 : Nat) : Int) ∧ ((Rat.divInt n d).den : Int) = d / ((gcdN (lin n d) 2 : Nat) : Int) := by rw [gcdN_two]; exact mkR_pos h
theorem mkR_negN {n d : Int} (h : d < 0) : (Rat.divInt n d).num = -n / ((gcdN (lin n d) 2 : Nat) : Int) ∧ ((Rat.divInt n d).den : Int) = -d / ((gcdN (lin n d) 2 : Nat) : Int) := by
  have h1 := mkR_pos (n := -n) (d := -d) (by omega)
  rw [Rat.neg_divInt_neg, Int.natAbs_neg, Int.natAbs_neg] at h1
  rw [gcdN_two]; exact h1
theorem g_ne {n d : Int} (h : d ≠ 0) : ((gcdN (lin n d) 2 : Nat) : Int) ≠ 0 := by rw [gcdN_two]; exact gcd_nz h
theorem g_l (n d : Int) : ((gcdN (lin n d) 2 : Nat) : Int) ∣ n := by rw [gcdN_two]; exact gcd_dvd_l n d
theorem g_r (n d : Int) : ((gcdN (lin n d) 2 : Nat) : Int) ∣ d := by rw [gcdN_two]; exact gcd_dvd_r n d
theorem mkR_zero (n : Int) : mkR n 0 = Rat.divInt n 1 := by unfold mkR; rw [if_pos rfl]
end Go.Proofs.Ytpnoklbijfmoaaa

/-
  PLAIN LAW of chapter 4: which of two rationals is greater; the middle, the whole number below. No condition; nothing of the program.
-/
set_option linter.unusedVariables false
set_option linter.unusedSimpArgs false
namespace Go.Proofs.Ytpnoklbijfmoaaa
open Go.RowKit

theorem mkR_self (q : Rat) : mkR q.num (q.den : Int) = q := by rw [mkR_ne (den_ne q), Rat.num_divInt_den]
theorem cmpQ_eq {a b : Rat} (h : a = b) : cmpQ a b = 0 := by subst h; unfold cmpQ cmpZ; simp
theorem cmpQ_lt {x y : Rat} (h : x < y) : cmpQ x y = -1 := by
  have := (Rat.lt_iff x y).1 h
  unfold cmpQ cmpZ
  (repeat' split) <;> omega
theorem cmpQ_gt {x y : Rat} (h : y < x) : cmpQ x y = 1 := by
  have := (Rat.lt_iff y x).1 h
  unfold cmpQ cmpZ
  (repeat' split) <;> omega
theorem ratTri (x y : Rat) : x < y ∨ x = y ∨ y < x := by
  by_cases h : x < y
  · exact Or.inl h
  · by_cases k : y < x
    · exact Or.inr (Or.inr k)
    · exact Or.inr (Or.inl (by grind))
theorem cmpQ_spec (x y : Rat) : (x < y ∧ cmpQ x y = -1) ∨ (x = y ∧ cmpQ x y = 0) ∨ (y < x ∧ cmpQ x y = 1) := by
  rcases ratTri x y with h | h | h
  · exact Or.inl ⟨h, cmpQ_lt h⟩
  · exact Or.inr (Or.inl ⟨h, cmpQ_eq h⟩)
  · exact Or.inr (Or.inr ⟨h, cmpQ_gt h⟩)
theorem cmpQ_bd (x y : Rat) : -1 ≤ cmpQ x y ∧ cmpQ x y ≤ 1 := by rcases cmpQ_spec x y with ⟨_, h⟩ | ⟨_, h⟩ | ⟨_, h⟩ <;> omega
theorem cmpQ_le {x y : Rat} : cmpQ x y ≤ 0 ↔ x ≤ y := by
  rcases cmpQ_spec x y with ⟨h, e⟩ | ⟨h, e⟩ | ⟨h, e⟩ <;> rw [e] <;> constructor <;> intro k <;> first | omega | grind
theorem cmpQ_ge {x y : Rat} : cmpQ x y ≥ 0 ↔ y ≤ x := by
  rcases cmpQ_spec x y with ⟨h, e⟩ | ⟨h, e⟩ | ⟨h, e⟩ <;> rw [e] <;> constructor <;> intro k <;> first | omega | grind
theorem cmpQ_zero {x y : Rat} : cmpQ x y = 0 ↔ x = y := by
  rcases cmpQ_spec x y with ⟨h, e⟩ | ⟨h, e⟩ | ⟨h, e⟩ <;> rw [e] <;> constructor <;> intro k <;> first | omega | grind
theorem cmpQ_anti (x y : Rat) : cmpQ y x = -cmpQ x y := by
  rcases cmpQ_spec x y with ⟨h, e⟩ | ⟨h, e⟩ | ⟨h, e⟩
  · rw [e, cmpQ_gt h]; rfl
  · rw [e, cmpQ_eq h.symm]; rfl
  · rw [e, cmpQ_lt h]
theorem cmpQ_congr {x y x' y' : Rat} (h1 : x < y ↔ x' < y') (h2 : y < x ↔ y' < x') : cmpQ x y = cmpQ x' y' := by
  rcases cmpQ_spec x y with ⟨h, e⟩ | ⟨h, e⟩ | ⟨h, e⟩
  · rw [e, cmpQ_lt (h1.1 h)]
  · rw [e, cmpQ_eq]
    have a1 : ¬ x' < y' := fun k => by have := h1.2 k; grind
    have a2 : ¬ y' < x' := fun k => by have := h2.2 k; grind
    grind
  · rw [e, cmpQ_gt (h2.1 h)]
theorem cmpQ_add (x y z : Rat) : cmpQ (x + z) (y + z) = cmpQ x y := cmpQ_congr (by constructor <;> intro h <;> grind) (by constructor <;> intro h <;> grind)
theorem cmpQ_neg (x y : Rat) : cmpQ (-x) (-y) = -cmpQ x y := by rw [← cmpQ_anti]; exact cmpQ_congr (by constructor <;> intro h <;> grind) (by constructor <;> intro h <;> grind)
theorem cmpQ_midl (x y : Rat) : cmpQ x ((x + y) / 2) = cmpQ x y := cmpQ_congr (by constructor <;> intro h <;> grind) (by constructor <;> intro h <;> grind)
theorem cmpQ_midr (x y : Rat) : cmpQ ((x + y) / 2) y = cmpQ x y := cmpQ_congr (by constructor <;> intro h <;> grind) (by constructor <;> intro h <;> grind)
theorem sgn_num (q : Rat) : sgn q.num = cmpQ q 0 := by
  unfold cmpQ cmpZ sgn
  have h1 : (0 : Rat).num = 0 := rfl
  have h2 : ((0 : Rat).den : Int) = 1 := rfl
  rw [h1, h2, Int.mul_one, Int.zero_mul]
theorem sgn_sub (x y : Rat) : sgn (x - y).num = cmpQ x y := by
  rw [sgn_num]
  exact cmpQ_congr (by constructor <;> intro h <;> grind) (by constructor <;> intro h <;> grind)
theorem floor_q (q : Rat) : q.num / (q.den : Int) = q.floor := (Rat.floor_def q).symm
theorem floor_le' (q : Rat) : ((q.num / (q.den : Int) : Int) : Rat) ≤ q := by rw [floor_q]; exact Rat.floor_le q
theorem floor_gt' (q : Rat) : q < ((q.num / (q.den : Int) : Int) : Rat) + 1 := by
  rw [floor_q]
  have := Rat.lt_floor (x := q)
  grind
theorem mid_div (P Q : Rat) : Rat.divInt (P.num * Q.den + Q.num * P.den) (P.den * Q.den * 2) = (P + Q) / 2 := by
  have h1 := mkR_add P Q
  rw [mkR_ne (Int.mul_ne_zero (den_ne P) (den_ne Q))] at h1
  have h2 : Rat.divInt 1 2 = (1 : Rat) / 2 := by decide +kernel
  rw [← Int.mul_one (P.num * Q.den + Q.num * P.den), ← Rat.divInt_mul_divInt, h1, h2]
  grind
theorem half_mul (P Q : Rat) : (P + Q) * mkR 1 2 = (P + Q) / 2 := by
  have h2 : mkR 1 2 = (1 : Rat) / 2 := by decide +kernel
  rw [h2]; grind
theorem num_ne {q : Rat} (h : q ≠ 0) : q.num ≠ 0 := fun e => h (Rat.num_eq_zero.1 e)
theorem quo_div {P Q : Rat} (h : Q ≠ 0) : Rat.divInt (P.num * Q.den) (P.den * Q.num) = P / Q := by
  have := mkR_quo P Q h
  rwa [mkR_ne (Int.mul_ne_zero (den_ne P) (num_ne h))] at this
theorem mkR_scale {n d m : Int} (hd : d ≠ 0) (hm : m ≠ 0) : mkR (n * m) (d * m) = mkR n d := by
  rw [mkR_ne (Int.mul_ne_zero hd hm), mkR_ne hd, Int.mul_comm n m, Int.mul_comm d m, Rat.divInt_mul_left hm]
/-- The sum, the greatest of many. -/
def tsum (q : Nat → Rat) : Nat → Rat
  | 0 => 0
  | i + 1 => tsum q i + q i
def tmax (a : Rat) (q : Nat → Rat) : Nat → Rat
  | 0 => a
  | i + 1 => if cmpQ (q i) (tmax a q i) > 0 then q i else tmax a q i
theorem tmax_ge (a : Rat) (q : Nat → Rat) : ∀ n, a ≤ tmax a q n ∧ (∀ i, i < n → q i ≤ tmax a q n) ∧ (tmax a q n = a ∨ ∃ i, i < n ∧ tmax a q n = q i)
  | 0 => ⟨by show a ≤ a; grind, fun i hi => absurd hi (Nat.not_lt_zero _), Or.inl rfl⟩
  | n + 1 => by
    obtain ⟨h1, h2, h3⟩ := tmax_ge a q n
    unfold tmax
    by_cases h : cmpQ (q n) (tmax a q n) > 0
    · rw [if_pos h]
      have hlt : tmax a q n < q n := by
        rcases cmpQ_spec (q n) (tmax a q n) with ⟨k, e⟩ | ⟨k, e⟩ | ⟨k, e⟩
        · omega
        · omega
        · exact k
      refine ⟨by grind, fun i hi => ?_, Or.inr ⟨n, by omega, rfl⟩⟩
      rcases Nat.eq_or_lt_of_le (Nat.le_of_lt_succ hi) with e | e
      · subst e; grind
      · have := h2 i e; grind
    · rw [if_neg h]
      have hle : q n ≤ tmax a q n := cmpQ_le.1 (by omega)
      refine ⟨h1, fun i hi => ?_, ?_⟩
      · rcases Nat.eq_or_lt_of_le (Nat.le_of_lt_succ hi) with e | e
        · subst e; exact hle
        · exact h2 i e
      · rcases h3 with h3 | ⟨i, hi, e⟩
        · exact Or.inl h3
        · exact Or.inr ⟨i, by omega, e⟩
theorem ist_zz (K : Nat) (n d : Int) : IsT (zn K n ++ zn K d) K n d := ⟨decide (n < 0), limbs n.natAbs, decide (d < 0), limbs d.natAbs, fun _ _ _ h => h, by rw [val_limbs]; exact zv_natAbs _, by rw [val_limbs]; exact zv_natAbs _⟩
theorem sgn_den (q : Rat) : sgn (q.den : Int) > 0 := by
  have h := q.den_pos
  unfold sgn
  (repeat' split) <;> omega
theorem gcd_red (q : Rat) : gcdN (lin q.num (q.den : Int)) 2 = 1 := by
  rw [gcdN_two]
  exact q.reduced
theorem den_pos (q : Rat) : (0 : Int) < (q.den : Int) := by have := q.den_pos; omega
theorem zv_lt {s : Bool} {m : Nat} : zv s m < 0 ↔ s = true ∧ m ≠ 0 := by
  cases s
  · show (m : Int) < 0 ↔ _
    constructor <;> intro h
    · omega
    · exact absurd h.1 (by decide)
  · show -(m : Int) < 0 ↔ _
    constructor <;> intro h
    · exact ⟨rfl, by omega⟩
    · have := h.2; omega
/-- Division by a number above 0, out of the sizes'. -/
theorem dmP {x y : Int} (hy : 0 < y) (h : ¬ (x < 0 ∧ x.natAbs % y.natAbs ≠ 0)) : zv (decide (x < 0)) (x.natAbs / y.natAbs) = x / y ∧ zv (decide (x < 0)) (x.natAbs % y.natAbs) = x % y := by
  obtain ⟨n, rfl⟩ := Int.eq_ofNat_of_zero_le (Int.le_of_lt hy)
  rw [show Int.natAbs (n : Int) = n from rfl]
  have hn : 0 < n := by omega
  by_cases hx : x < 0
  · rw [show Int.natAbs (n : Int) = n from rfl] at h
    have h0 : x.natAbs % n = 0 := Classical.byContradiction fun e => h ⟨hx, e⟩
    obtain ⟨m, hm⟩ : ∃ m : Nat, m = x.natAbs := ⟨_, rfl⟩
    have hxm : x = -(m : Int) := by omega
    rw [← hm] at h0 ⊢
    have hd := Nat.div_add_mod m n
    have hu := (Int.ediv_emod_unique (a := x) (b := (n : Int)) (r := 0) (q := -((m / n : Nat) : Int)) hy).2 ⟨by
      rw [Int.mul_neg, ← Int.natCast_mul]; omega, Int.le_refl _, hy⟩
    rw [decide_eq_true hx, h0, hu.1, hu.2]
    exact ⟨rfl, rfl⟩
  · obtain ⟨m, rfl⟩ := Int.eq_ofNat_of_zero_le (Int.not_lt.1 hx)
    rw [decide_eq_false hx, show Int.natAbs (m : Int) = m from rfl]
    exact ⟨Int.natCast_ediv _ _, Int.natCast_emod _ _⟩
theorem dmN {x y : Int} (hy : 0 < y) (h : x < 0 ∧ x.natAbs % y.natAbs ≠ 0) : zv (decide (x < 0)) (x.natAbs / y.natAbs) - 1 = x / y ∧ zv (decide (x < 0)) (x.natAbs % y.natAbs) + y = x % y := by
  obtain ⟨n, rfl⟩ := Int.eq_ofNat_of_zero_le (Int.le_of_lt hy)
  rw [show Int.natAbs (n : Int) = n from rfl] at h ⊢
  obtain ⟨hx, h0⟩ := h
  have hn : 0 < n := by omega
  obtain ⟨m, hm⟩ : ∃ m : Nat, m = x.natAbs := ⟨_, rfl⟩
  have hxm : x = -(m : Int) := by omega
  rw [← hm] at h0 ⊢
  have hd := Nat.div_add_mod m n
  have hlt := Nat.mod_lt m hn
  have hu := (Int.ediv_emod_unique (a := x) (b := (n : Int)) (r := (n : Int) - ((m % n : Nat) : Int)) (q := -((m / n : Nat) : Int) - 1) hy).2 ⟨by
    rw [Int.mul_sub, Int.mul_neg, ← Int.natCast_mul, Int.mul_one]; omega, by omega, by omega⟩
  rw [decide_eq_true hx, hu.1, hu.2]
  exact ⟨rfl, by show -((m % n : Nat) : Int) + (n : Int) = _; omega⟩
end Go.Proofs.Ytpnoklbijfmoaaa

/-
  RATIONALS of the program, by the machine.
-/
set_option linter.unusedVariables false
set_option linter.unusedSimpArgs false
namespace Go.Proofs.Ytpnoklbijfmoaaa
open Go.RowKit

end Go.Proofs.Ytpnoklbijfmoaaa

/-
  RATIONALS of the program, by the machine (2).
-/
set_option linter.unusedVariables false
set_option linter.unusedSimpArgs false
namespace Go.Proofs.Ytpnoklbijfmoaaa
open Go.RowKit

theorem mkR_sub (a b : Rat) : Rat.divInt (a.num * b.den - b.num * a.den) (a.den * b.den) = a - b := by
  have h := mkR_add a (-b)
  rw [mkR_ne (Int.mul_ne_zero (den_ne a) (den_ne (-b))), Rat.neg_num, Rat.neg_den, Int.neg_mul, ← Int.sub_eq_add_neg, ← Rat.sub_eq_add_neg] at h
  exact h
theorem mkR_nz (a b : Rat) : (a.den : Int) * (b.den : Int) ≠ 0 := Int.mul_ne_zero (den_ne a) (den_ne b)
end Go.Proofs.Ytpnoklbijfmoaaa

/-
  PLAIN LAW of chapter 5: sums, products, multiples over rationals and over whole numbers. No condition; nothing of the program.
-/
set_option linter.unusedVariables false
set_option linter.unusedSimpArgs false
namespace Go.Proofs.Ytpnoklbijfmoaaa
open Go.RowKit

theorem rc_add (a b : Nat → Int) (j : Nat) : faddQ (rc a) (rc b) j = rc (fadd a b) j := (Rat.intCast_add _ _).symm
theorem rc_conv (a b : Nat → Int) (j : Nat) : conv (rc a) (rc b) j = rc (conv a b) j := cv_cast _
theorem rc_scl (a : Nat → Int) (y : Int) (j : Nat) : fsclQ (rc a) (mkR y 1) j = rc (fscl a y) j := by
  rw [mkR_int]; exact (Rat.intCast_mul _ _).symm
theorem len_add {a b : Nat → Int} {p q : Nat} (h1 : ∀ j, p ≤ j → fadd a b j = 0) (h2 : ∀ j, q ≤ j → fadd a b j = 0) : dg (faddQ (rc a) (rc b)) p = dg (fadd a b) q := (dg_fun (rc_add a b) p).trans ((dg_cast p).trans (dg_eq h1 h2))
theorem len_conv {a b : Nat → Int} {p q : Nat} (h1 : ∀ j, p ≤ j → conv a b j = 0) (h2 : ∀ j, q ≤ j → conv a b j = 0) : dg (conv (rc a) (rc b)) p = dg (conv a b) q := (dg_fun (rc_conv a b) p).trans ((dg_cast p).trans (dg_eq h1 h2))
theorem len_scl {a : Nat → Int} {y : Int} {p : Nat} : dg (fsclQ (rc a) (mkR y 1)) p = dg (fscl a y) p := (dg_fun (rc_scl a y) p).trans (dg_cast p)
/-- The bounds in PolyAlls. -/
def KP : Nat → Nat
  | 0 => 64
  | i + 1 => (i * 5 + 1 + 1) * (KP i + 64 + 66) + 70
theorem KP_le : ∀ i, i ≤ 4 → KP i ≤ 5000000 := by decide
theorem app_r {e : TypeId} {K n m : Nat} {ns : Nat → Nat} {fs : Nat → Nat → Bool × List Nat} {el2 : Nat → Nat → Lf} (hm : m = n + 1) (h0 : el2 0 0 = arow K (ns n) (fs n) := by rfl) : AO.le (.row e 1 (n + 1) (appEl n (fun p _ => arow K (ns p) (fs p)) el2)) (.row e 1 m (fun p _ => arow K (ns p) (fs p))) := by
  refine app_el hm (fun i hi j hj B w v hv => hv) fun j hj B w v hv => ?_
  obtain rfl : j = 0 := by omega
  rw [h0] at hv; exact hv
theorem isi_cut {n : Nat} {c : Nat → Int} : IsI (irow n c) n (fun i => if i < n then c i else 0) := by
  refine ⟨row_le fun i hi j hj B w v hv => ?_, fun i hi => if_neg (by omega)⟩
  show LfR B w (.v (.int .i64 (if i < n then c i else 0))) v
  rw [if_pos hi]; exact hv
end Go.Proofs.Ytpnoklbijfmoaaa

/-
  PLAIN LAW of chapter 5: the product of polynomials asks for no order, and goes over sums; its leading coefficient. No condition; nothing of the program.
-/
set_option linter.unusedVariables false
set_option linter.unusedSimpArgs false
namespace Go.Proofs.Ytpnoklbijfmoaaa
open Go.RowKit

def sm (f : Nat → Int) : Nat → Int
  | 0 => 0
  | m + 1 => sm f m + f m
theorem sm_congr {f g : Nat → Int} : ∀ {m : Nat}, (∀ i, i < m → f i = g i) → sm f m = sm g m
  | 0, _ => rfl
  | m + 1, h => by show sm f m + f m = sm g m + g m; rw [sm_congr (fun i hi => h i (by omega)), h m (by omega)]
theorem sm_add {f g : Nat → Int} : ∀ m, sm (fun i => f i + g i) m = sm f m + sm g m
  | 0 => rfl
  | m + 1 => by show sm _ m + (f m + g m) = (sm f m + f m) + (sm g m + g m); rw [sm_add m]; omega
theorem sm_mul {f : Nat → Int} {q : Int} : ∀ m, sm (fun i => q * f i) m = q * sm f m
  | 0 => (Int.mul_zero q).symm
  | m + 1 => by show sm _ m + q * f m = q * (sm f m + f m); rw [sm_mul m, Int.mul_add]
theorem sm_mul_r {f : Nat → Int} {q : Int} : ∀ m, sm (fun i => f i * q) m = sm f m * q
  | 0 => (Int.zero_mul q).symm
  | m + 1 => by show sm _ m + f m * q = (sm f m + f m) * q; rw [sm_mul_r m, Int.add_mul]
theorem sm_first {f : Nat → Int} : ∀ m, sm f (m + 1) = f 0 + sm (fun i => f (i + 1)) m
  | 0 => by show (0 : Int) + f 0 = f 0 + 0; omega
  | m + 1 => by
    have h := sm_first (f := f) m
    show sm f (m + 1) + f (m + 1) = f 0 + (sm (fun i => f (i + 1)) m + f (m + 1))
    omega
theorem sm_rev {f : Nat → Int} : ∀ n, sm f (n + 1) = sm (fun i => f (n - i)) (n + 1)
  | 0 => rfl
  | n + 1 => by
    rw [sm_first (f := fun i => f (n + 1 - i)) (n + 1)]
    show sm f (n + 1) + f (n + 1) = f (n + 1) + sm (fun i => f (n + 1 - (i + 1))) (n + 1)
    rw [sm_rev n, Int.add_comm]
    congr 1
    exact sm_congr fun i _ => by congr 1; omega
theorem cv_sm {a b : Nat → Int} {j : Nat} : ∀ {m : Nat}, m ≤ j + 1 → cv a b m j = sm (fun i => a i * b (j - i)) m
  | 0, _ => rfl
  | m + 1, h => by
    show cv a b m j + (if m ≤ j then a m * b (j - m) else 0) = _
    rw [cv_sm (by omega), if_pos (by omega)]; rfl
theorem conv_sm (a b : Nat → Int) (j : Nat) : conv a b j = sm (fun i => a i * b (j - i)) (j + 1) := cv_sm (Nat.le_refl _)
theorem conv_comm (a b : Nat → Int) (j : Nat) : conv a b j = conv b a j := by
  rw [conv_sm, conv_sm, sm_rev]
  exact sm_congr fun i hi => by rw [show j - (j - i) = i by omega, Int.mul_comm]
theorem sm_tri {G : Nat → Nat → Int} : ∀ n, sm (fun i => sm (fun k => G k (i - k)) (i + 1)) (n + 1) = sm (fun k => sm (fun l => G k l) (n - k + 1)) (n + 1)
  | 0 => rfl
  | n + 1 => by
    have e : sm (fun k => sm (fun l => G k l) (n + 1 - k + 1)) (n + 1) = sm (fun k => sm (fun l => G k l) (n - k + 1)) (n + 1) + sm (fun k => G k (n + 1 - k)) (n + 1) := by
      rw [← sm_add]
      refine sm_congr fun k hk => ?_
      rw [show n + 1 - k + 1 = (n - k + 1) + 1 by omega]
      show sm (fun l => G k l) (n - k + 1) + G k (n - k + 1) = _
      rw [show n - k + 1 = n + 1 - k by omega]
    show sm (fun i => sm (fun k => G k (i - k)) (i + 1)) (n + 1) + (sm (fun k => G k (n + 1 - k)) (n + 1) + G (n + 1) (n + 1 - (n + 1))) = sm (fun k => sm (fun l => G k l) (n + 1 - k + 1)) (n + 1) + sm (fun l => G (n + 1) l) (n + 1 - (n + 1) + 1)
    rw [e, sm_tri n, Nat.sub_self]
    show _ = _ + (0 + G (n + 1) 0)
    omega
theorem conv_assoc (a b c : Nat → Int) (j : Nat) : conv (conv a b) c j = conv a (conv b c) j := by
  rw [conv_sm, conv_sm]
  have h1 : sm (fun i => conv a b i * c (j - i)) (j + 1) = sm (fun i => sm (fun k => (fun k l => a k * b l * c (j - (k + l))) k (i - k)) (i + 1)) (j + 1) := by
    refine sm_congr fun i hi => ?_
    rw [conv_sm, ← sm_mul_r]
    exact sm_congr fun k hk => by show _ = a k * b (i - k) * c (j - (k + (i - k))); rw [show k + (i - k) = i by omega]
  have h2 : sm (fun i => a i * conv b c (j - i)) (j + 1) = sm (fun k => sm (fun l => (fun k l => a k * b l * c (j - (k + l))) k l) (j - k + 1)) (j + 1) := by
    refine sm_congr fun k hk => ?_
    rw [conv_sm, ← sm_mul]
    exact sm_congr fun l hl => by show _ = a k * b l * c (j - (k + l)); rw [show j - k - l = j - (k + l) by omega, Int.mul_assoc]
  rw [h1, h2]
  exact sm_tri (G := fun k l => a k * b l * c (j - (k + l))) j
theorem conv_add (a b c : Nat → Int) (j : Nat) : conv a (fadd b c) j = fadd (conv a b) (conv a c) j := by
  show _ = conv a b j + conv a c j
  rw [conv_sm, conv_sm, conv_sm, ← sm_add]
  exact sm_congr fun i _ => by show a i * (b (j - i) + c (j - i)) = _; rw [Int.mul_add]
theorem conv_fun {a b a' b' : Nat → Int} (h : ∀ i, a i = a' i) (k : ∀ i, b i = b' i) (j : Nat) : conv a b j = conv a' b' j := by rw [funext h, funext k]
theorem fadd_fun {a b a' b' : Nat → Int} (h : ∀ i, a i = a' i) (k : ∀ i, b i = b' i) (j : Nat) : fadd a b j = fadd a' b' j := by rw [funext h, funext k]
theorem conv_one (a : Nat → Int) (j : Nat) : conv (lst [1]) a j = a j := by
  rw [conv_sm, sm_first]
  show 1 * a (j - 0) + sm (fun i => lst [1] (i + 1) * a (j - (i + 1))) j = a j
  have : sm (fun i => lst [1] (i + 1) * a (j - (i + 1))) j = sm (fun i => 0 * a (j - (i + 1))) j := sm_congr fun i _ => by rw [lst_z (l := [1]) (i + 1) (by simp)]
  rw [this, sm_mul (q := 0) (f := fun i => a (j - (i + 1)))]; simp
/-- The leading coefficient of a product. -/
theorem conv_top {a b : Nat → Int} {n m : Nat} (ha : ∀ i, n ≤ i → a i = 0) (hb : ∀ i, m ≤ i → b i = 0) (hn : n ≠ 0) (hm : m ≠ 0) : conv a b (n + m - 2) = a (n - 1) * b (m - 1) := by
  obtain ⟨n, rfl⟩ := Nat.exists_eq_succ_of_ne_zero hn
  obtain ⟨m, rfl⟩ := Nat.exists_eq_succ_of_ne_zero hm
  rw [← cv_conv (n := n + 1) ha]
  show cv a b n (n.succ + m.succ - 2) + (if n ≤ n.succ + m.succ - 2 then a n * b (n.succ + m.succ - 2 - n) else 0) = a n * b m
  rw [conv_z (fun i hi _ => by rw [hb (n.succ + m.succ - 2 - i) (by omega), Int.mul_zero]), if_pos (by omega), show n.succ + m.succ - 2 - n = m by omega, Int.zero_add]
theorem dg_conv {a b : Nat → Int} {n m : Nat} (hn : n ≠ 0) (hm : m ≠ 0) (ha : ∀ i, n ≤ i → a i = 0) (hb : ∀ i, m ≤ i → b i = 0) (ha0 : a (n - 1) ≠ 0) (hb0 : b (m - 1) ≠ 0) {p : Nat} (hp : ∀ i, p ≤ i → conv a b i = 0) : dg (conv a b) p = n + m - 1 :=
  dg_uniq dg_or (dg_z hp) (Or.inr (by rw [show n + m - 1 - 1 = n + m - 2 by omega, conv_top ha hb hn hm]; exact Int.mul_ne_zero ha0 hb0)) (fun i hi => conv_beyond ha hb (by omega))
def f3 {α : Type} (x y z : α) : Nat → α := fun p => if p = 0 then x else if p = 1 then y else z
theorem isps3 {K n0 n1 n2 : Nat} {g0 g1 g2 : Nat → Bool × List Nat} {el : Nat → Nat → Lf} (h0 : el 0 0 = arow K n0 g0 := by rfl) (h1 : el 1 0 = arow K n1 g1 := by rfl) (h2 : el 2 0 = arow K n2 g2 := by rfl) : ∀ B w v, LfR B w (.row 1 3 el) v → LfR B w (prows K 3 (f3 n0 n1 n2) (f3 g0 g1 g2)) v := by
  refine row_le fun i hi j hj B w v hv => ?_
  obtain rfl : j = 0 := by omega
  match i, hi with
  | 0, _ => rw [h0] at hv; exact hv
  | 1, _ => rw [h1] at hv; exact hv
  | 2, _ => rw [h2] at hv; exact hv
theorem nil_zn {K : Nat} {z : Int} (h : z = 0) : AV.le (.d (.agg [.v (.bool false), .v (.slice none 0 0)])) (.d (.agg (zn K z))) := by subst h; exact le_agg fun B w cs h => zn_mono (Nat.zero_le _) _ _ _ (nil_ls h)
end Go.Proofs.Ytpnoklbijfmoaaa

/-
  VALUES of polynomials, by the machine.
-/
set_option linter.unusedVariables false
set_option linter.unusedSimpArgs false
namespace Go.Proofs.Ytpnoklbijfmoaaa
open Go.RowKit

/-- Horner's rule over whole numbers. -/
def vlZ (a : Nat → Int) (x y : Int) (top : Nat) : Nat → Int
  | 0 => 0
  | s + 1 => vlZ a x y top s * x + a (top - 1 - s) * y ^ s
def vlQ (a : Nat → Rat) (q : Rat) (top : Nat) : Nat → Rat
  | 0 => 0
  | s + 1 => vlQ a q top s * q + a (top - 1 - s)
theorem leo_nilz {t : TypeId} {K : Nat} : AO.le (.box t [.v (.bool false), .v (.slice none 0 0)]) (.box t (zn K 0)) := leo_box fun B w cs h => zn_mono (Nat.zero_le _) _ _ _ (nil_ls h)
end Go.Proofs.Ytpnoklbijfmoaaa

/-
  POLYNOMIALS, by the machine (6): Same, Lead, Deg.
-/
set_option linter.unusedVariables false
set_option linter.unusedSimpArgs false
namespace Go.Proofs.Ytpnoklbijfmoaaa
open Go.RowKit

set_option maxRecDepth 100000 in
set_option maxHeartbeats 4000000 in
theorem aDeg {K n : Nat} {c : Nat → Int} (hn : n ≤ 1000000) : ACall Try.prog 24 [.one (prow K n c)] (.d (.one (.v (.int .i64 ((n : Int) - 1))))) := by
  refine acallN hTT 6 [.tmp 2] Try.func24 rfl rfl rfl rfl rfl ?_
  refine cSeq ?_
  refine cReg ?_
  refine mV hTT _ rfl ?_
  refine mNil ?_
  refine tN ?_
  refine cSeq ?_
  refine cReg ?_
  refine mV hTT _ rfl ?_
  refine mV hTT (.d (.one (.v (.int .i64 (n : Int))))) rfl ?_
  refine mV hTT (.d (.one (.v (.int .i64 ((n : Int) - 1))))) (evi (wr64 (by omega) (by omega))) ?_
  refine mV hTT _ rfl ?_
  refine mNil ?_
  refine tN ?_
  refine cRet ?_
  exact rQ rfl (AV.le.rfl)

end Go.Proofs.Ytpnoklbijfmoaaa

/-
  SIGNS of polynomials, by the machine.
-/
set_option linter.unusedVariables false
set_option linter.unusedSimpArgs false
namespace Go.Proofs.Ytpnoklbijfmoaaa
open Go.RowKit

theorem cmpZ_sgn (z : Int) : cmpZ z 0 = sgn z := by unfold cmpZ sgn; (repeat' split) <;> omega
theorem sgn_bd (z : Int) : -1 ≤ sgn z ∧ sgn z ≤ 1 := by unfold sgn; (repeat' split) <;> omega
end Go.Proofs.Ytpnoklbijfmoaaa

/-
  VALUES of the plain reckoning's polynomials, by the machine.
-/
set_option linter.unusedVariables false
set_option linter.unusedSimpArgs false
namespace Go.Proofs.Ytpnoklbijfmoaaa
open Go.RowKit

theorem leo_nilr {t : TypeId} {K : Nat} : AO.le (.box t [.v (.slice none 0 0), .v (.bool false)]) (.box t (rn K 0)) := leo_box fun B w cs h => rn_mono (Nat.zero_le _) _ _ _ (nil_rs h)
end Go.Proofs.Ytpnoklbijfmoaaa

/-
  PLAIN LAW of chapter 5: Horner's rule gives the value; values of products. No condition; nothing of the program.
-/
set_option linter.unusedVariables false
set_option linter.unusedSimpArgs false
namespace Go.Proofs.Ytpnoklbijfmoaaa
open Go.RowKit

theorem pow_ne_int {y : Int} (h : y ≠ 0) : ∀ s : Nat, ¬ y ^ s = 0
  | 0 => by rw [Int.pow_zero]; decide
  | s + 1 => by rw [Int.pow_succ]; exact Int.mul_ne_zero (pow_ne_int h s) h
theorem num_den (q : Rat) : q * ((q.den : Int) : Rat) = (q.num : Rat) := by
  have h := mkR_div (x := q.num) (y := (q.den : Int)) (den_ne q)
  rw [mkR_ne (den_ne q), Rat.num_divInt_den] at h
  exact h
theorem vl_hv {a : Nat → Int} {q : Rat} {top : Nat} : ∀ s, ((vlZ a q.num (q.den : Int) top s : Int) : Rat) * ((q.den : Int) : Rat) = ((q.den : Int) : Rat) ^ s * vlQ (rc a) q top s
  | 0 => by show ((0 : Int) : Rat) * _ = _ * (0 : Rat); rw [Rat.mul_zero]; exact Rat.zero_mul _
  | s + 1 => by
    have h0 := vl_hv (a := a) (q := q) (top := top) s
    have hq := num_den q
    show ((vlZ a q.num (q.den : Int) top s * q.num + a (top - 1 - s) * (q.den : Int) ^ s : Int) : Rat) * ((q.den : Int) : Rat) = ((q.den : Int) : Rat) ^ (s + 1) * (vlQ (rc a) q top s * q + rc a (top - 1 - s))
    have hrc : rc a (top - 1 - s) = ((a (top - 1 - s) : Int) : Rat) := rfl
    rw [hrc, Rat.intCast_add, Rat.intCast_mul, Rat.intCast_mul, cast_pow, Rat.pow_succ]
    grind
/-- The value, as the program reckons it. -/
theorem vl_end {a : Nat → Int} {q : Rat} (n : Nat) : Rat.divInt (vlZ a q.num (q.den : Int) n n) ((q.den : Int) ^ (n - 1)) = vlQ (rc a) q n n := by
  have hd : (q.den : Int) ≠ 0 := den_ne q
  have hy : ¬ (q.den : Int) ^ (n - 1) = 0 := pow_ne_int hd _
  have h1 := mkR_div (x := vlZ a q.num (q.den : Int) n n) hy
  rw [mkR_ne hy] at h1
  have h2 := vl_hv (a := a) (q := q) (top := n) n
  have hdr : ((q.den : Int) : Rat) ≠ 0 := fun e => hd (Rat.intCast_eq_zero_iff.1 e)
  have hpr : ((q.den : Int) : Rat) ^ (n - 1) ≠ 0 := pow_ne hdr _
  rw [cast_pow] at h1
  cases n with
  | zero =>
    rw [show (0 : Nat) - 1 = 0 from rfl, Rat.pow_zero, Rat.mul_one] at h1
    rw [show (0 : Nat) - 1 = 0 from rfl]
    rw [h1]; rfl
  | succ s =>
    rw [Nat.add_sub_cancel] at h1 hpr ⊢
    rw [Rat.pow_succ] at h2
    grind
end Go.Proofs.Ytpnoklbijfmoaaa

/-
  PLAIN LAW of chapter 5: values of polynomials; polynomials that have one value everywhere are one. No condition; nothing of the program.
-/
set_option linter.unusedVariables false
set_option linter.unusedSimpArgs false
namespace Go.Proofs.Ytpnoklbijfmoaaa
open Go.RowKit

/-- The value: the sum of the terms. -/
def pe (a : Nat → Rat) (q : Rat) : Nat → Rat
  | 0 => 0
  | n + 1 => pe a q n + a n * q ^ n
theorem pe_hor {a : Nat → Rat} {q : Rat} {top : Nat} : ∀ s, s ≤ top → pe a q top = pe a q (top - s) + q ^ (top - s) * vlQ a q top s
  | 0, _ => by show _ = pe a q (top - 0) + _ * (0 : Rat); rw [Nat.sub_zero, Rat.mul_zero, Rat.add_zero]
  | s + 1, h => by
    rw [pe_hor s (by omega)]
    have e : top - s = (top - (s + 1)) + 1 := by omega
    show _ = _ + _ * (vlQ a q top s * q + a (top - 1 - s))
    rw [e, show top - 1 - s = top - (s + 1) by omega]
    show pe a q (top - (s + 1)) + a (top - (s + 1)) * q ^ (top - (s + 1)) + _ = _
    rw [Rat.pow_succ]
    grind
theorem pe_vl (a : Nat → Rat) (q : Rat) (n : Nat) : vlQ a q n n = pe a q n := by
  have h := pe_hor (a := a) (q := q) (top := n) n (Nat.le_refl _)
  rw [Nat.sub_self] at h
  rw [h]
  show _ = (0 : Rat) + _
  rw [Rat.pow_zero, Rat.one_mul, Rat.zero_add]
theorem pe_congr {a b : Nat → Rat} {q : Rat} : ∀ {n : Nat}, (∀ i, i < n → a i = b i) → pe a q n = pe b q n
  | 0, _ => rfl
  | n + 1, h => by show _ + _ = _ + _; rw [pe_congr (n := n) fun i hi => h i (by omega), h n (by omega)]
theorem pe_more {a : Nat → Rat} {q : Rat} {n : Nat} (h : ∀ i, n ≤ i → a i = 0) : ∀ d, pe a q (n + d) = pe a q n
  | 0 => rfl
  | d + 1 => by show pe a q (n + d) + a (n + d) * _ = _; rw [pe_more h d, h (n + d) (by omega), Rat.zero_mul, Rat.add_zero]
theorem pe_eq {a : Nat → Rat} {q : Rat} {n m : Nat} (h : ∀ i, n ≤ i → a i = 0) (k : ∀ i, m ≤ i → a i = 0) : pe a q n = pe a q m := by
  rcases Nat.le_total n m with e | e
  · have := pe_more (q := q) h (m - n); rw [show n + (m - n) = m by omega] at this; exact this.symm
  · have := pe_more (q := q) k (n - m); rw [show m + (n - m) = n by omega] at this; exact this
theorem pe_add {a b : Nat → Rat} {q : Rat} : ∀ n, pe (faddQ a b) q n = pe a q n + pe b q n
  | 0 => by show (0 : Rat) = 0 + 0; grind
  | n + 1 => by show pe (faddQ a b) q n + (a n + b n) * q ^ n = (pe a q n + _) + (pe b q n + _); rw [pe_add n]; grind
theorem pe_scl {a : Nat → Rat} {q r : Rat} : ∀ n, pe (fsclQ a r) q n = pe a q n * r
  | 0 => by show (0 : Rat) = 0 * r; grind
  | n + 1 => by show pe (fsclQ a r) q n + (a n * r) * q ^ n = (pe a q n + _) * r; rw [pe_scl n]; grind
theorem pe_zero {a : Nat → Rat} {q : Rat} : ∀ {n : Nat}, (∀ i, i < n → a i = 0) → pe a q n = 0
  | 0, _ => rfl
  | n + 1, h => by show _ + _ = _; rw [pe_zero (n := n) fun i hi => h i (by omega), h n (by omega), Rat.zero_mul, Rat.add_zero]
theorem pow_addQ (q : Rat) (k : Nat) : ∀ m : Nat, q ^ (k + m) = q ^ k * q ^ m
  | 0 => by rw [Nat.add_zero, Rat.pow_zero, Rat.mul_one]
  | m + 1 => by rw [← Nat.add_assoc, Rat.pow_succ, Rat.pow_succ, pow_addQ q k m, Rat.mul_assoc]
theorem pe_shift {b : Nat → Rat} {q x : Rat} {k : Nat} : ∀ m, pe (fun j => if k ≤ j then x * b (j - k) else 0) q (k + m) = x * q ^ k * pe b q m
  | 0 => by
    show _ = x * q ^ k * (0 : Rat)
    rw [Rat.mul_zero]
    exact pe_zero fun i hi => if_neg (by omega)
  | m + 1 => by
    show pe _ q (k + m) + (if k ≤ k + m then x * b (k + m - k) else 0) * q ^ (k + m) = x * q ^ k * (pe b q m + b m * q ^ m)
    rw [pe_shift m, if_pos (by omega), Nat.add_sub_cancel_left, pow_addQ]
    grind
theorem pe_cv {a b : Nat → Rat} {q : Rat} {m : Nat} (hb : ∀ i, m ≤ i → b i = 0) : ∀ k, pe (cv a b k) q (k + m) = pe a q k * pe b q m
  | 0 => by
    show _ = (0 : Rat) * _
    rw [Rat.zero_mul]
    exact pe_zero fun i hi => rfl
  | k + 1 => by
    have h1 : pe (cv a b (k + 1)) q (k + 1 + m) = pe (faddQ (cv a b k) (fun j => if k ≤ j then a k * b (j - k) else 0)) q (k + 1 + m) := pe_congr fun i hi => rfl
    rw [h1, pe_add, show k + 1 + m = (k + m) + 1 by omega]
    have h2 : pe (cv a b k) q (k + m + 1) = pe (cv a b k) q (k + m) := pe_more (n := k + m) (fun i hi => conv_zQ fun j hj hji => by rw [hb (i - j) (by omega), Rat.mul_zero]) 1
    rw [h2, pe_cv hb k]
    have h3 := pe_shift (b := b) (q := q) (x := a k) (k := k) (m + 1)
    rw [← Nat.add_assoc] at h3
    rw [h3]
    show _ = (pe a q k + a k * q ^ k) * _
    have h4 : pe b q (m + 1) = pe b q m := pe_more hb 1
    rw [h4]
    grind
/-- The product's value. -/
theorem pe_conv {a b : Nat → Rat} {q : Rat} {n m : Nat} (ha : ∀ i, n ≤ i → a i = 0) (hb : ∀ i, m ≤ i → b i = 0) : pe (conv a b) q (n + m) = pe a q n * pe b q m := by
  rw [← pe_cv hb n]
  exact pe_congr fun i hi => (cv_convQ ha).symm
/-- The value of a row of whole numbers. -/
def pz (c : Nat → Int) (q : Rat) (n : Nat) : Rat := pe (rc c) q n
theorem pz_eq {c : Nat → Int} {q : Rat} {n m : Nat} (h : ∀ i, n ≤ i → c i = 0) (k : ∀ i, m ≤ i → c i = 0) : pz c q n = pz c q m := pe_eq (rc_z h) (rc_z k)
theorem pz_conv {a b : Nat → Int} {q : Rat} {n m p : Nat} (ha : ∀ i, n ≤ i → a i = 0) (hb : ∀ i, m ≤ i → b i = 0) (hp : ∀ i, p ≤ i → conv a b i = 0) : pz (conv a b) q p = pz a q n * pz b q m := by
  rw [pz_eq hp (conv_z0 ha hb)]
  show pe _ q _ = _
  rw [pe_congr (b := conv (rc a) (rc b)) fun i _ => (rc_conv a b i).symm]
  exact pe_conv (rc_z ha) (rc_z hb)
theorem pz_scl {a : Nat → Int} {q : Rat} {n : Nat} (y : Int) : pz (fscl a y) q n = pz a q n * (y : Rat) := by
  show pe _ q _ = _
  rw [pe_congr (a := rc (fscl a y)) (b := fsclQ (rc a) (y : Rat)) fun i _ => Rat.intCast_mul _ _]
  exact pe_scl n
theorem pz_vl (c : Nat → Int) (q : Rat) (n : Nat) : vlQ (rc c) q n n = pz c q n := pe_vl _ _ _

/-! ### Moved -/
theorem pe_hv {a : Nat → Rat} {r q : Rat} {top : Nat} : ∀ s, pe (hvQ a r top s) q s = vlQ a (q + r) top s
  | 0 => rfl
  | s + 1 => by
    show pe (faddQ (conv (hvQ a r top s) (linQ r (((1 : Int) : Int) : Rat))) (oneQ (a (top - 1 - s)))) q (s + 1) = vlQ a (q + r) top s * (q + r) + a (top - 1 - s)
    rw [pe_add]
    have h1 : pe (conv (hvQ a r top s) (linQ r (((1 : Int) : Int) : Rat))) q (s + 1) = pe (conv (hvQ a r top s) (linQ r (((1 : Int) : Int) : Rat))) q (s + 2) := pe_eq (fun i hi => conv_beyondQ (hvQ_z s) linQ_z (by omega)) (fun i hi => conv_beyondQ (hvQ_z s) linQ_z (by omega))
    rw [h1, pe_conv (hvQ_z s) linQ_z, pe_hv s]
    have h2 : pe (linQ r (((1 : Int) : Int) : Rat)) q 2 = q + r := by
      show (0 : Rat) + linQ r _ 0 * q ^ 0 + linQ r _ 1 * q ^ 1 = _
      rw [show linQ r (((1 : Int) : Int) : Rat) 0 = r from rfl, show linQ r (((1 : Int) : Int) : Rat) 1 = 1 from rfl, Rat.pow_zero, Rat.pow_succ, Rat.pow_zero]
      grind
    have h3 : pe (oneQ (a (top - 1 - s))) q (s + 1) = a (top - 1 - s) := by
      rw [pe_eq (m := 1) (fun i hi => oneQ_z i (by omega)) oneQ_z]
      show (0 : Rat) + a (top - 1 - s) * q ^ 0 = _
      rw [Rat.pow_zero]; grind
    rw [h2, h3]
/-- One that is moved has its values at the place moved from, but for a power of the denominator. -/
theorem pz_mv {a : Nat → Int} {x y : Int} {q : Rat} {n : Nat} (hy : ¬ y = 0) : pz (mvZ a x y n n) q n = (y : Rat) ^ (n - 1) * pz a (q + mkR x y) n := by
  have h1 : pz (mvZ a x y n n) q n = pe (fsclQ (hvQ (rc a) (mkR x y) n n) ((y : Rat) ^ (n - 1))) q n := pe_congr fun i _ => by
    rw [← mv_end (a := a) (x := x) (n := n) hy i, scQ_pow, mkR_int]; rfl
  rw [h1, pe_scl, pe_hv, pz_vl, Rat.mul_comm]

/-! ### Far out -/
theorem sgn_pos {d : Int} (h : 0 < d) : sgn d = 1 := by unfold sgn; rw [if_neg (by omega), if_neg (by omega)]
theorem sgn_neg {d : Int} (h : d < 0) : sgn d = -1 := by unfold sgn; rw [if_pos h]
theorem sgn_zero : sgn 0 = 0 := rfl
theorem sgn_mul (a b : Int) : sgn (a * b) = sgn a * sgn b := by
  rcases Int.lt_trichotomy a 0 with ha | ha | ha
  · rcases Int.lt_trichotomy b 0 with hb | hb | hb
    · rw [sgn_neg ha, sgn_neg hb, sgn_pos (Int.mul_pos_of_neg_of_neg ha hb)]; rfl
    · rw [hb, Int.mul_zero, sgn_zero, Int.mul_zero]
    · rw [sgn_neg ha, sgn_pos hb, sgn_neg (Int.mul_neg_of_neg_of_pos ha hb)]; rfl
  · rw [ha, Int.zero_mul, sgn_zero, Int.zero_mul]
  · rcases Int.lt_trichotomy b 0 with hb | hb | hb
    · rw [sgn_pos ha, sgn_neg hb, sgn_neg (Int.mul_neg_of_pos_of_neg ha hb)]; rfl
    · rw [hb, Int.mul_zero, sgn_zero, Int.mul_zero]
    · rw [sgn_pos ha, sgn_pos hb, sgn_pos (Int.mul_pos ha hb)]; rfl
theorem sgn_far {v x c : Int} (hv : v ≠ 0) (h : c.natAbs < x.natAbs) : sgn (v * x + c) = sgn v * sgn x := by
  rw [← sgn_mul]
  have h1 : x.natAbs ≤ (v * x).natAbs := by rw [Int.natAbs_mul]; exact Nat.le_mul_of_pos_left _ (Int.natAbs_pos.2 hv)
  rcases Int.lt_trichotomy (v * x) 0 with e | e | e
  · rw [sgn_neg e, sgn_neg (by omega)]
  · rw [e] at h1; have : (0 : Int).natAbs = 0 := rfl; omega
  · rw [sgn_pos e, sgn_pos (by omega)]
theorem sgn_ne {z : Int} : sgn z ≠ 0 ↔ z ≠ 0 := by unfold sgn; constructor <;> intro h <;> (repeat' split at *) <;> omega
theorem far_sgn {c : Nat → Int} {x : Int} {top : Nat} (h : ∀ i, i < top → (c i).natAbs < x.natAbs) (h0 : c (top - 1) ≠ 0) : ∀ s, s < top → sgn (vlZ c x 1 top (s + 1)) = sgn (c (top - 1)) * (sgn x) ^ s
  | 0, hs => by
    show sgn (0 * x + c (top - 1 - 0) * 1 ^ 0) = _
    rw [Int.zero_mul, Int.zero_add, Int.pow_zero, Int.mul_one, Int.pow_zero, Int.mul_one, Nat.sub_zero]
  | s + 1, hs => by
    have ih := far_sgn h h0 s (by omega)
    have hx : x ≠ 0 := by have := h 0 (by omega); omega
    have hv : vlZ c x 1 top (s + 1) ≠ 0 := by
      rw [← sgn_ne, ih]
      exact Int.mul_ne_zero (sgn_ne.2 h0) (pow_ne_int (sgn_ne.2 hx) s)
    show sgn (vlZ c x 1 top (s + 1) * x + c (top - 1 - (s + 1)) * 1 ^ (s + 1)) = _
    rw [Int.one_pow, Int.mul_one, sgn_far hv (h _ (by omega)), ih, Int.pow_succ, Int.mul_assoc]
theorem vl_one {a : Nat → Int} {x : Int} {top : Nat} : ∀ s, ((vlZ a x 1 top s : Int) : Rat) = vlQ (rc a) (x : Rat) top s
  | 0 => rfl
  | s + 1 => by
    show ((vlZ a x 1 top s * x + a (top - 1 - s) * 1 ^ s : Int) : Rat) = vlQ (rc a) (x : Rat) top s * (x : Rat) + rc a (top - 1 - s)
    rw [Int.one_pow, Int.mul_one, Rat.intCast_add, Rat.intCast_mul, vl_one s]; rfl
/-- The sum of all sizes. -/
def szs (c : Nat → Int) : Nat → Int
  | 0 => 0
  | n + 1 => szs c n + ((c n).natAbs : Int)
theorem szs_nn (c : Nat → Int) : ∀ n, 0 ≤ szs c n
  | 0 => Int.le_refl _
  | n + 1 => by show 0 ≤ szs c n + _; have := szs_nn c n; omega
theorem szs_le {c : Nat → Int} : ∀ {n i : Nat}, i < n → ((c i).natAbs : Int) ≤ szs c n
  | n + 1, i, h => by
    show _ ≤ szs c n + _
    have := szs_nn c n
    rcases Nat.eq_or_lt_of_le (Nat.le_of_lt_succ h) with e | e
    · subst e; omega
    · have := szs_le (c := c) e; omega
/-- Rows that are 0 everywhere. -/
theorem pz_zero {c : Nat → Int} {n : Nat} (hz : ∀ i, n ≤ i → c i = 0) (h : ∀ x : Int, pz c (x : Rat) n = 0) : ∀ i, c i = 0 := by
  have hd : dg c n = 0 := by
    refine Classical.byContradiction fun hne => ?_
    have h0 := dg_ne hne
    let m := dg c n
    have h1 := far_sgn (c := c) (x := 1 + szs c m) (top := m) (fun i hi => by have := szs_le (c := c) hi; have := szs_nn c m; omega) h0 (m - 1) (by omega)
    rw [show m - 1 + 1 = m by omega] at h1
    have h2 : vlZ c (1 + szs c m) 1 m m = 0 := by
      have h3 := vl_one (a := c) (x := 1 + szs c m) (top := m) m
      rw [pz_vl, pz_eq (dg_z hz) hz, h] at h3
      exact Rat.intCast_eq_zero_iff.1 h3
    rw [h2] at h1
    have hx : (1 + szs c m) ≠ 0 := by have := szs_nn c m; omega
    exact Int.mul_ne_zero (sgn_ne.2 h0) (pow_ne_int (sgn_ne.2 hx) (m - 1)) h1.symm
  exact dg_all hz hd
theorem pz_sub {a b : Nat → Int} {q : Rat} {n : Nat} : pz (fsub a b) q n = pz a q n - pz b q n := by
  have h : pe (faddQ (rc a) (fsclQ (rc b) (-1))) q n = pz (fsub a b) q n := pe_congr fun i _ => by
    show rc a i + rc b i * (-1) = ((a i - b i : Int) : Rat)
    rw [Rat.intCast_sub]; show (a i : Rat) + (b i : Rat) * (-1) = _; grind
  rw [← h, pe_add, pe_scl]
  show _ = pe (rc a) q n - pe (rc b) q n
  grind
/-- THE LAW OF ONE: rows that have one value at all whole numbers are one. -/
theorem pz_one {a b : Nat → Int} {n m : Nat} (ha : ∀ i, n ≤ i → a i = 0) (hb : ∀ i, m ≤ i → b i = 0) (h : ∀ x : Int, pz a (x : Rat) n = pz b (x : Rat) m) : ∀ i, a i = b i := by
  have hz : ∀ i, max n m ≤ i → fsub a b i = 0 := fsub_z ha hb
  have h1 := pz_zero hz (fun x => by
    rw [pz_sub, pz_eq (c := a) (n := max n m) (m := n) (fun i hi => ha i (by omega)) ha, pz_eq (c := b) (n := max n m) (m := m) (fun i hi => hb i (by omega)) hb, h]
    grind)
  intro i
  have := h1 i
  unfold fsub at this
  omega
/-- The leading coefficient of one that is moved. -/
theorem mv_top {a : Nat → Int} {x y : Int} {top : Nat} : ∀ s, mvZ a x y top (s + 1) s = a (top - 1) * y ^ s
  | 0 => by
    show conv (fun _ => 0) (lin x y) 0 + onez (a (top - 1 - 0) * y ^ 0) 0 = _
    rw [conv_lin]
    show 0 * x + 0 + a (top - 1 - 0) * y ^ 0 = _
    rw [Nat.sub_zero]; omega
  | s + 1 => by
    show conv (mvZ a x y top (s + 1)) (lin x y) (s + 1) + onez _ (s + 1) = _
    rw [conv_lin, mvZ_z (s + 1) (s + 1) (Nat.le_refl _), onez_z (s + 1) (by omega), if_neg (by omega), Nat.add_sub_cancel, mv_top s, Int.pow_succ, Int.mul_assoc]
    omega
/-- The derivative of a product. -/
theorem der_conv (a b : Nat → Int) (j : Nat) : fder (conv a b) j = fadd (conv (fder a) b) (conv a (fder b)) j := by
  have h1 : conv (fder a) b j = sm (fun i => (a i * (i : Int)) * b (j + 1 - i)) (j + 2) := by
    rw [conv_sm, show j + 2 = (j + 1) + 1 by omega, sm_first (f := fun i => (a i * (i : Int)) * b (j + 1 - i)) (j + 1)]
    show _ = (a 0 * ((0 : Nat) : Int)) * _ + _
    rw [Int.natCast_zero, Int.mul_zero, Int.zero_mul, Int.zero_add]
    exact sm_congr fun i hi => by show (a (i + 1) * ((i + 1 : Nat) : Int)) * b (j - i) = _; rw [show j + 1 - (i + 1) = j - i by omega]
  have h2 : conv a (fder b) j = sm (fun i => a i * (b (j + 1 - i) * ((j + 1 - i : Nat) : Int))) (j + 2) := by
    rw [conv_sm]
    show _ = sm (fun i => a i * (b (j + 1 - i) * ((j + 1 - i : Nat) : Int))) (j + 1) + a (j + 1) * (b (j + 1 - (j + 1)) * ((j + 1 - (j + 1) : Nat) : Int))
    rw [Nat.sub_self, Int.natCast_zero, Int.mul_zero, Int.mul_zero, Int.add_zero]
    exact sm_congr fun i hi => by show a i * (b (j - i + 1) * ((j - i + 1 : Nat) : Int)) = _; rw [show j + 1 - i = j - i + 1 by omega]
  show conv a b (j + 1) * ((j + 1 : Nat) : Int) = conv (fder a) b j + conv a (fder b) j
  rw [h1, h2, ← sm_add, conv_sm, ← sm_mul_r]
  refine sm_congr fun i hi => ?_
  have e : ((j + 1 : Nat) : Int) = (i : Int) + ((j + 1 - i : Nat) : Int) := by omega
  show a i * b (j + 1 - i) * ((j + 1 : Nat) : Int) = a i * (i : Int) * b (j + 1 - i) + a i * (b (j + 1 - i) * ((j + 1 - i : Nat) : Int))
  rw [e]
  grind
/-- Moved there and back. -/
theorem mv_back {a : Nat → Int} {x y : Int} {n : Nat} (hy : ¬ y = 0) (hz : ∀ i, n ≤ i → a i = 0) (i : Nat) : mvZ (mvZ a x y n n) (-x) y n n i = fscl a (y ^ (2 * (n - 1))) i := by
  refine pz_one (mvZ_z n) (fscl_z hz) (fun t => ?_) i
  rw [pz_mv hy, pz_mv hy, pz_scl]
  have hm : mkR (-x) y + mkR x y = 0 := by
    have hy' : (y : Rat) ≠ 0 := fun e => hy (Rat.intCast_eq_zero_iff.1 e)
    have h1 := mkR_div (x := -x) hy
    have h2 := mkR_div (x := x) hy
    rw [Rat.intCast_neg] at h1
    grind
  rw [show ((t : Rat) + mkR (-x) y + mkR x y) = (t : Rat) by grind, cast_pow, show 2 * (n - 1) = (n - 1) + (n - 1) by omega, pow_addQ]
  grind
theorem neg1_pow : ∀ s : Nat, (-1 : Int) ^ s = if s % 2 = 0 then 1 else -1
  | 0 => rfl
  | s + 1 => by
    rw [Int.pow_succ, neg1_pow s]
    by_cases h : s % 2 = 0
    · rw [if_pos h, if_neg (by omega)]; rfl
    · rw [if_neg h, if_pos (by omega)]; rfl
theorem far_at {c : Nat → Int} {x : Int} {m : Nat} (hm : m ≠ 0) (h0 : c (m - 1) ≠ 0) (hx : ∀ i, i < m → (c i).natAbs < x.natAbs) : sgn (vlZ c (mkR (Rat.num (x : Rat)) (Rat.den (x : Rat) : Int)).num ((mkR (Rat.num (x : Rat)) (Rat.den (x : Rat) : Int)).den : Int) m m) = sgn (c (m - 1)) * (sgn x) ^ (m - 1) := by
  rw [mkR_self, Rat.num_intCast, Rat.den_intCast]
  have h := far_sgn hx h0 (m - 1) (by omega)
  rw [show m - 1 + 1 = m by omega] at h
  exact h
theorem far_pos {c : Nat → Int} {N m : Nat} (hmN : m ≤ N) (hm : m ≠ 0) (h0 : c (m - 1) ≠ 0) : sgn (vlZ c (mkR (Rat.num ((1 + szs c N : Int) : Rat)) (Rat.den ((1 + szs c N : Int) : Rat) : Int)).num ((mkR (Rat.num ((1 + szs c N : Int) : Rat)) (Rat.den ((1 + szs c N : Int) : Rat) : Int)).den : Int) m m) = sgn (c (m - 1)) := by
  have hn := szs_nn c N
  rw [far_at hm h0 (fun i hi => by have := szs_le (c := c) (n := N) (i := i) (by omega); omega), sgn_pos (show 0 < 1 + szs c N by omega), Int.one_pow, Int.mul_one]
theorem far_neg {c : Nat → Int} {N m : Nat} (hmN : m ≤ N) (hm : m ≠ 0) (h0 : c (m - 1) ≠ 0) : sgn (vlZ c (mkR (Rat.num ((-(1 + szs c N) : Int) : Rat)) (Rat.den ((-(1 + szs c N) : Int) : Rat) : Int)).num ((mkR (Rat.num ((-(1 + szs c N) : Int) : Rat)) (Rat.den ((-(1 + szs c N) : Int) : Rat) : Int)).den : Int) m m) = if m % 2 = 0 then -sgn (c (m - 1)) else sgn (c (m - 1)) := by
  have hn := szs_nn c N
  rw [far_at hm h0 (fun i hi => by have := szs_le (c := c) (n := N) (i := i) (by omega); omega), sgn_neg (show -(1 + szs c N) < 0 by omega), neg1_pow]
  by_cases h : m % 2 = 0
  · rw [if_neg (by omega), if_pos h]; omega
  · rw [if_pos (by omega), if_neg h]; omega
theorem pow_pos_int {d : Int} (h : 0 < d) : ∀ s : Nat, 0 < d ^ s
  | 0 => by rw [Int.pow_zero]; decide
  | s + 1 => by rw [Int.pow_succ]; exact Int.mul_pos (pow_pos_int h s) h
theorem vl_pz (c : Nat → Int) (q : Rat) (n : Nat) : ((vlZ c q.num (q.den : Int) n n : Int) : Rat) * ((q.den : Int) : Rat) = ((q.den : Int) : Rat) ^ n * pz c q n := by rw [vl_hv, pz_vl]
/-- The sign of a product's value. -/
theorem vl_prod {a b : Nat → Int} {q : Rat} {n m p : Nat} (ha : ∀ i, n ≤ i → a i = 0) (hb : ∀ i, m ≤ i → b i = 0) (hp : ∀ i, p ≤ i → conv a b i = 0) :
    sgn (vlZ (conv a b) q.num (q.den : Int) p p) = sgn (vlZ a q.num (q.den : Int) n n) * sgn (vlZ b q.num (q.den : Int) m m) := by
  have h1 := vl_pz (conv a b) q p
  have h2 := vl_pz a q n
  have h3 := vl_pz b q m
  rw [pz_conv ha hb hp] at h1
  have hd := den_pos q
  generalize hD : (q.den : Int) = D at *
  have e : vlZ (conv a b) q.num D p p * (D * D ^ n * D ^ m) = vlZ a q.num D n n * vlZ b q.num D m m * (D * D * D ^ p) := by
    apply Rat.intCast_inj.1
    simp only [Rat.intCast_mul, cast_pow]
    generalize (vlZ (conv a b) q.num D p p : Rat) = C at *
    generalize (vlZ a q.num D n n : Rat) = A at *
    generalize (vlZ b q.num D m m : Rat) = B at *
    generalize pz a q n = x at *
    generalize pz b q m = y at *
    generalize (D : Rat) ^ n = u at *
    generalize (D : Rat) ^ m = v at *
    generalize (D : Rat) ^ p = t at *
    grind
  have e2 := congrArg sgn e
  rw [sgn_mul, sgn_mul (vlZ a q.num D n n * vlZ b q.num D m m), sgn_pos (Int.mul_pos (Int.mul_pos hd (pow_pos_int hd n)) (pow_pos_int hd m)), sgn_pos (Int.mul_pos (Int.mul_pos hd hd) (pow_pos_int hd p)), Int.mul_one, Int.mul_one, sgn_mul] at e2
  exact e2
theorem sgn_bd2 (z : Int) : -1 ≤ sgn z ∧ sgn z ≤ 1 := by unfold sgn; (repeat' split) <;> omega
theorem sgn_wr (a b : Int) : IntKind.i64.wrap (sgn a * sgn b) = sgn a * sgn b := by rw [← sgn_mul]; have := sgn_bd2 (a * b); exact wr64 (by omega) (by omega)
theorem divInt_div {x y : Int} (hy : y ≠ 0) : (y : Rat) * Rat.divInt x y = (x : Rat) := by
  have h := mkR_div (x := x) hy
  rw [mkR_ne hy] at h
  rw [Rat.mul_comm]; exact h
theorem lst2_z {x y : Int} : ∀ i, 2 ≤ i → lst [-x, y] i = 0 := fun i hi => lst_z (l := [-x, y]) i hi
theorem root_lin {x y : Int} (hy : y ≠ 0) {m : Nat} (hm : ∀ i, m ≤ i → lst [-x, y] i = 0) : pz (lst [-x, y]) (Rat.divInt x y) m = 0 := by
  rw [pz_eq hm (lst2_z (x := x) (y := y))]
  show ((0 : Rat) + ((-x : Int) : Rat) * (Rat.divInt x y) ^ 0) + (y : Rat) * (Rat.divInt x y) ^ 1 = 0
  have h := divInt_div (x := x) hy
  rw [Rat.pow_succ, Rat.pow_zero, Rat.intCast_neg]
  grind
theorem root_val {c : Nat → Int} {x y : Int} {n p : Nat} (hy : y ≠ 0) (hz : ∀ i, n ≤ i → c i = 0) (hp : ∀ i, p ≤ i → conv c (lst [-x, y]) i = 0) : vlQ (rc (conv c (lst [-x, y]))) (Rat.divInt x y) p p = 0 := by
  rw [pz_vl, pz_conv hz (lst2_z (x := x) (y := y)) hp, root_lin hy lst2_z, Rat.mul_zero]
theorem root_sgn {c : Nat → Int} {x y : Int} {n p : Nat} (hy : y ≠ 0) (hz : ∀ i, n ≤ i → c i = 0) (hp : ∀ i, p ≤ i → conv c (lst [-x, y]) i = 0) : sgn (vlZ (conv c (lst [-x, y])) (Rat.divInt x y).num ((Rat.divInt x y).den : Int) p p) = 0 := by
  rw [vl_prod hz (lst2_z (x := x) (y := y)) hp]
  have h := vl_pz (lst [-x, y]) (Rat.divInt x y) 2
  rw [root_lin hy lst2_z, Rat.mul_zero] at h
  have hd : (((Rat.divInt x y).den : Int) : Rat) ≠ 0 := fun e => den_ne _ (Rat.intCast_eq_zero_iff.1 e)
  have h2 : ((vlZ (lst [-x, y]) (Rat.divInt x y).num ((Rat.divInt x y).den : Int) 2 2 : Int) : Rat) = 0 := (Rat.mul_eq_zero.1 h).resolve_right hd
  rw [Rat.intCast_eq_zero_iff.1 h2]
  exact Int.mul_zero _
theorem roots_mv {c : Nat → Int} {x y : Int} {n p : Nat} {q : Rat} (hy : y ≠ 0) (hz : ∀ i, n ≤ i → c i = 0) (hp : ∀ i, p ≤ i → mvZ c x y n n i = 0) : vlQ (rc (mvZ c x y n n)) q p p = ((y ^ (((n - 1 : Nat) : Int)).toNat : Int) : Rat) * vlQ (rc c) (q + Rat.divInt x y) n n := by
  rw [pz_vl, pz_vl, pz_eq hp (mvZ_z n), pz_mv hy, mkR_ne hy, cast_pow, Int.toNat_natCast]
theorem mv_dg {c : Nat → Int} {x y : Int} {n p : Nat} (hy : y ≠ 0) (h : n = 0 ∨ c (n - 1) ≠ 0) (hp : ∀ i, p ≤ i → mvZ c x y n n i = 0) : dg (mvZ c x y n n) p = n := by
  refine dg_uniq dg_or (dg_z hp) ?_ (mvZ_z n)
  rcases h with h | h
  · exact Or.inl h
  · rcases Nat.eq_zero_or_pos n with e | e
    · exact Or.inl e
    · refine Or.inr ?_
      have ht := mv_top (a := c) (x := x) (y := y) (top := n) (n - 1)
      rw [show n - 1 + 1 = n by omega] at ht
      rw [ht]
      exact Int.mul_ne_zero h (pow_ne_int hy _)
end Go.Proofs.Ytpnoklbijfmoaaa

/-
  PLAIN LAW of chapter 12: a curve's normal form is told by the least common denominator of its coefficients; rows one behind the other. No condition; nothing of the program.
-/
set_option linter.unusedVariables false
set_option linter.unusedSimpArgs false
namespace Go.Proofs.Ytpnoklbijfmoaaa
open Go.RowKit

/-- Two rows one behind the other. -/
def catF {α : Type} (n : Nat) (c d : Nat → α) : Nat → α := fun i => bif Nat.ble (i + 1) n then c i else d (i - n)
theorem catF_l {α : Type} {n i : Nat} {c d : Nat → α} (h : i < n) : catF n c d i = c i := by unfold catF; rw [show Nat.ble (i + 1) n = true from Nat.ble_eq_true_of_le h]; rfl
theorem catF_r {α : Type} {n i : Nat} {c d : Nat → α} (h : n ≤ i) : catF n c d i = d (i - n) := by unfold catF; rw [show Nat.ble (i + 1) n = false from by rw [← Bool.not_eq_true]; exact fun e => by have := Nat.le_of_ble_eq_true e; omega]; rfl
/-- The least common denominator of the first n. -/
def lcd (q : Nat → Rat) : Nat → Nat
  | 0 => 1
  | n + 1 => Nat.lcm (lcd q n) (q n).den
theorem lcd_congr {p q : Nat → Rat} : ∀ {n : Nat}, (∀ i, i < n → p i = q i) → lcd p n = lcd q n
  | 0, _ => rfl
  | n + 1, h => by show Nat.lcm _ _ = Nat.lcm _ _; rw [lcd_congr (fun i hi => h i (by omega)), h n (by omega)]
theorem lcd_pos {q : Nat → Rat} : ∀ n, 0 < lcd q n
  | 0 => Nat.one_pos
  | n + 1 => Nat.lcm_pos (lcd_pos n) (q n).den_pos
theorem lcd_dvd {q : Nat → Rat} {i : Nat} : ∀ {n}, i < n → (q i).den ∣ lcd q n
  | 0, h => absurd h (Nat.not_lt_zero _)
  | n + 1, h => by
    rcases Nat.lt_or_ge i n with h1 | h1
    · exact Nat.dvd_trans (lcd_dvd h1) (Nat.dvd_lcm_left _ _)
    · obtain rfl : i = n := by omega
      exact Nat.dvd_lcm_right _ _
theorem lcd_cat {p q : Nat → Rat} {n : Nat} : ∀ m, lcd (catF n p q) (n + m) = Nat.lcm (lcd p n) (lcd q m)
  | 0 => by
    rw [Nat.add_zero, show lcd q 0 = 1 from rfl, Nat.lcm_one_right]
    exact lcd_congr fun i hi => catF_l hi
  | m + 1 => by
    show Nat.lcm (lcd (catF n p q) (n + m)) (catF n p q (n + m)).den = Nat.lcm _ (Nat.lcm _ _)
    rw [lcd_cat m, catF_r (Nat.le_add_right _ _), Nat.add_sub_cancel_left, Nat.lcm_assoc]
theorem gcdN_cg {c d : Nat → Int} : ∀ {n : Nat}, (∀ i, i < n → c i = d i) → gcdN c n = gcdN d n
  | 0, _ => rfl
  | n + 1, h => by show Nat.gcd (gcdN c n) _ = Nat.gcd (gcdN d n) _; rw [gcdN_cg (fun i hi => h i (by omega)), h n (by omega)]
theorem gcdN_cat {c d : Nat → Int} {n : Nat} : ∀ m, gcdN (catF n c d) (n + m) = Nat.gcd (gcdN c n) (gcdN d m)
  | 0 => by
    rw [Nat.add_zero, show gcdN d 0 = 0 from rfl, Nat.gcd_zero_right]
    exact gcdN_cg fun i hi => catF_l hi
  | m + 1 => by
    show Nat.gcd (gcdN (catF n c d) (n + m)) (catF n c d (n + m)).natAbs = Nat.gcd _ (Nat.gcd _ _)
    rw [gcdN_cat m, catF_r (Nat.le_add_right _ _), Nat.add_sub_cancel_left, Nat.gcd_assoc]
theorem gcdN_dvd {c : Nat → Int} {i : Nat} : ∀ {n}, i < n → gcdN c n ∣ (c i).natAbs
  | 0, h => absurd h (Nat.not_lt_zero _)
  | n + 1, h => by
    rcases Nat.lt_or_ge i n with h1 | h1
    · exact Nat.dvd_trans (Nat.gcd_dvd_left _ _) (gcdN_dvd h1)
    · obtain rfl : i = n := by omega
      exact Nat.gcd_dvd_right _ _
theorem dv_left {D a g : Nat} (hg : 0 < g) (h : g ∣ a) (ha : a ∣ D) : D / a ∣ D / g := by
  obtain ⟨e, rfl⟩ := h
  obtain ⟨f, rfl⟩ := ha
  rcases Nat.eq_zero_or_pos e with rfl | he
  · simp
  · rw [Nat.mul_div_cancel_left _ (Nat.mul_pos hg he), Nat.mul_assoc, Nat.mul_div_cancel_left _ hg]
    exact Nat.dvd_mul_left _ _
/-- D over divisors. -/
theorem lcm_div {D a b : Nat} (hD : 0 < D) (ha : a ∣ D) (hb : b ∣ D) : Nat.lcm (D / a) (D / b) = D / Nat.gcd a b := by
  have ha0 : 0 < a := Nat.pos_of_dvd_of_pos ha hD
  have hb0 : 0 < b := Nat.pos_of_dvd_of_pos hb hD
  have hg0 : 0 < Nat.gcd a b := Nat.gcd_pos_of_pos_left _ ha0
  have hgD : Nat.gcd a b ∣ D := Nat.dvd_trans (Nat.gcd_dvd_left _ _) ha
  apply Nat.dvd_antisymm
  · apply Nat.lcm_dvd
    · exact dv_left hg0 (Nat.gcd_dvd_left _ _) ha
    · exact dv_left hg0 (Nat.gcd_dvd_right _ _) hb
  · have h1 : D ∣ a * Nat.lcm (D / a) (D / b) := by
      have := Nat.mul_dvd_mul_left a (Nat.dvd_lcm_left (D / a) (D / b))
      rwa [Nat.mul_div_cancel' ha] at this
    have h2 : D ∣ b * Nat.lcm (D / a) (D / b) := by
      have := Nat.mul_dvd_mul_left b (Nat.dvd_lcm_right (D / a) (D / b))
      rwa [Nat.mul_div_cancel' hb] at this
    have h3 := Nat.dvd_gcd h1 h2
    rw [Nat.gcd_mul_right] at h3
    have h4 : Nat.gcd a b * (D / Nat.gcd a b) ∣ Nat.gcd a b * Nat.lcm (D / a) (D / b) := by rwa [Nat.mul_div_cancel' hgD]
    exact Nat.dvd_of_mul_dvd_mul_left hg0 h4
/-- Whole numbers over D. -/
def ov (D : Int) (c : Nat → Int) : Nat → Rat := fun i => rc c i * mkR 1 D
theorem ov_div {D : Int} (hD : D ≠ 0) (c : Nat → Int) (i : Nat) : ov D c i = Rat.divInt (c i) D := by
  show ((c i : Int) : Rat) * mkR 1 D = _
  rw [← mkR_int, mkR_ne (by decide), mkR_ne hD, Rat.divInt_mul_divInt, Int.mul_one, Int.one_mul]
theorem den_div {a D : Int} (hD : D ≠ 0) : (Rat.divInt a D).den = D.natAbs / Nat.gcd D.natAbs a.natAbs := by
  rw [Rat.den_divInt, if_neg hD]; rfl
theorem lcd_ov {D : Int} (hD : D ≠ 0) {c : Nat → Int} : ∀ n, lcd (ov D c) n = D.natAbs / Nat.gcd D.natAbs (gcdN c n)
  | 0 => by
    show 1 = D.natAbs / Nat.gcd D.natAbs 0
    rw [Nat.gcd_zero_right, Nat.div_self (by omega)]
  | n + 1 => by
    show Nat.lcm (lcd (ov D c) n) (ov D c n).den = D.natAbs / Nat.gcd D.natAbs (Nat.gcd _ _)
    rw [lcd_ov hD n, ov_div hD, den_div hD, lcm_div (by omega) (Nat.gcd_dvd_left _ _) (Nat.gcd_dvd_left _ _)]
    congr 1
    apply Nat.dvd_antisymm
    · refine Nat.dvd_gcd (Nat.dvd_trans (Nat.gcd_dvd_left _ _) (Nat.gcd_dvd_left _ _)) (Nat.dvd_gcd (Nat.dvd_trans (Nat.gcd_dvd_left _ _) (Nat.gcd_dvd_right _ _)) (Nat.dvd_trans (Nat.gcd_dvd_right _ _) (Nat.gcd_dvd_right _ _)))
    · exact Nat.dvd_gcd (Nat.dvd_gcd (Nat.gcd_dvd_left _ _) (Nat.dvd_trans (Nat.gcd_dvd_right _ _) (Nat.gcd_dvd_left _ _))) (Nat.dvd_gcd (Nat.gcd_dvd_left _ _) (Nat.dvd_trans (Nat.gcd_dvd_right _ _) (Nat.gcd_dvd_right _ _)))
/-- The greatest common divisor of D and two rows. -/
def gD (D : Int) (n : Nat) (x : Nat → Int) (m : Nat) (y : Nat → Int) : Nat := gcdN (catF (1 + n) (catF 1 (fun i => if i = 0 then D else 0) x) y) (1 + n + m)
theorem gD_eq {D : Int} {n m : Nat} {x y : Nat → Int} : gD D n x m y = Nat.gcd (Nat.gcd D.natAbs (gcdN x n)) (gcdN y m) := by
  unfold gD
  rw [gcdN_cat, gcdN_cat]
  show Nat.gcd (Nat.gcd (Nat.gcd 0 D.natAbs) _) _ = _
  rw [Nat.gcd_zero_left]
theorem gD_pos {D : Int} {n m : Nat} {x y : Nat → Int} (hD : D ≠ 0) : 0 < gD D n x m y := by
  rw [gD_eq]; exact Nat.gcd_pos_of_pos_left _ (Nat.gcd_pos_of_pos_left _ (by omega))
theorem gD_D {D : Int} {n m : Nat} {x y : Nat → Int} : gD D n x m y ∣ D.natAbs := by
  rw [gD_eq]; exact Nat.dvd_trans (Nat.gcd_dvd_left _ _) (Nat.gcd_dvd_left _ _)
theorem gD_x {D : Int} {n m i : Nat} {x y : Nat → Int} (h : i < n) : gD D n x m y ∣ (x i).natAbs := by
  rw [gD_eq]; exact Nat.dvd_trans (Nat.dvd_trans (Nat.gcd_dvd_left _ _) (Nat.gcd_dvd_right _ _)) (gcdN_dvd h)
theorem gD_y {D : Int} {n m i : Nat} {x y : Nat → Int} (h : i < m) : gD D n x m y ∣ (y i).natAbs := by
  rw [gD_eq]; exact Nat.dvd_trans (Nat.gcd_dvd_right _ _) (gcdN_dvd h)
theorem lcd_gD {D : Int} {n m : Nat} {x y : Nat → Int} (hD : D ≠ 0) : lcd (catF n (ov D x) (ov D y)) (n + m) = D.natAbs / gD D n x m y := by
  rw [lcd_cat, lcd_ov hD, lcd_ov hD, lcm_div (by omega) (Nat.gcd_dvd_left _ _) (Nat.gcd_dvd_left _ _), gD_eq]
  congr 1
  apply Nat.dvd_antisymm
  · exact Nat.dvd_gcd (Nat.gcd_dvd_left _ _) (Nat.dvd_trans (Nat.gcd_dvd_right _ _) (Nat.gcd_dvd_right _ _))
  · exact Nat.dvd_gcd (Nat.gcd_dvd_left _ _) (Nat.dvd_gcd (Nat.dvd_trans (Nat.gcd_dvd_left _ _) (Nat.gcd_dvd_left _ _)) (Nat.gcd_dvd_right _ _))
/-- It, with D's sign. -/
def gS (D : Int) (g : Nat) : Int := if D < 0 then -(g : Int) else g
theorem gS_ne {D : Int} {g : Nat} (h : 0 < g) : gS D g ≠ 0 := by unfold gS; split <;> omega
theorem gS_dvd {D z : Int} {g : Nat} (h : g ∣ z.natAbs) : gS D g ∣ z := by
  unfold gS; split
  · exact Int.neg_dvd.2 (Int.ofNat_dvd_left.2 h)
  · exact Int.ofNat_dvd_left.2 h
/-- A normal curve's denominator, and its coefficients. -/
theorem nc_D {D : Int} {n m : Nat} {x y : Nat → Int} (hD : D ≠ 0) : D / gS D (gD D n x m y) = ((lcd (catF n (ov D x) (ov D y)) (n + m) : Nat) : Int) := by
  rw [lcd_gD hD, Int.natCast_ediv]
  unfold gS
  split
  · rw [Int.ediv_neg]
    rw [show ((D.natAbs : Nat) : Int) = -D by omega, Int.neg_ediv_of_dvd (Int.ofNat_dvd_left.2 gD_D)]
  · rw [show ((D.natAbs : Nat) : Int) = D by omega]
theorem nc_x {D z g : Int} {L : Nat} (hD : D ≠ 0) (hg : g ≠ 0) (hgD : g ∣ D) (hgz : g ∣ z) (hL : D / g = (L : Int)) : z / g = (Rat.divInt z D * mkR (L : Int) 1).num := by
  obtain ⟨e, rfl⟩ := hgD
  obtain ⟨f, rfl⟩ := hgz
  rw [Int.mul_ediv_cancel_left _ hg] at hL ⊢
  rw [mkR_ne (by decide), Rat.divInt_mul_divInt, ← hL, Int.mul_one]
  have he : e ≠ 0 := fun h => hD (by rw [h, Int.mul_zero])
  rw [show g * f * e = (g * e) * f by rw [Int.mul_assoc, Int.mul_comm f e, ← Int.mul_assoc]]
  have := Rat.divInt_mul_left (n := f) (d := 1) hD
  rw [Int.mul_one] at this
  rw [this, show Rat.divInt f 1 = (f : Rat) from (mkR_ne (by decide)).symm.trans (mkR_int f), Rat.num_intCast]

/-- A normal curve's coefficients, over L. -/
def cX (L : Nat) (c : Nat → Rat) : Nat → Int := fun i => (c i * mkR (L : Int) 1).num
theorem cX_z {L n : Nat} {c : Nat → Rat} (h : ∀ i, n ≤ i → c i = 0) : ∀ i, n ≤ i → cX L c i = 0 := fun i hi => by unfold cX; rw [h i hi, Rat.zero_mul]; rfl
def cvn (K n m L : Nat) (p q : Nat → Rat) : List Lf := [prow K n (cX L p), prow K m (cX L q)] ++ zn K (L : Int)
theorem cvn_mono {K M n m L : Nat} {p q : Nat → Rat} (h : K ≤ M) : ∀ B w cs, LsR B w (cvn K n m L p q) cs → LsR B w (cvn M n m L p q) cs
  | B, w, [a, b, c, d], ⟨h1, h2, h3, h4, h5⟩ => ⟨prow_le h (fun _ _ => rfl) _ _ _ h1, prow_le h (fun _ _ => rfl) _ _ _ h2, h3, lr_mono h _ _ _ h4, h5⟩
theorem le_cvn {K M n n' m m' L L' : Nat} {p p' q q' : Nat → Rat} (h : K ≤ M) (e1 : n = n') (e2 : m = m') (e3 : L = L') (e4 : ∀ i, i < n → p i = p' i) (e5 : ∀ i, i < m → q i = q' i) : AV.le (.d (.agg (cvn K n m L p q))) (.d (.agg (cvn M n' m' L' p' q'))) := by
  subst e1; subst e2; subst e3
  refine le_agg fun B w cs hcs => ?_
  match cs, hcs with
  | [a, b, c, d], ⟨h1, h2, h3, h4, h5⟩ => exact ⟨prow_le h (fun i hi => by unfold cX; rw [e4 i hi]) _ _ _ h1, prow_le h (fun i hi => by unfold cX; rw [e5 i hi]) _ _ _ h2, h3, lr_mono h _ _ _ h4, h5⟩
/-- Made of its parts. -/
theorem le_cvn3 {K1 K2 K3 M n n' m m' L : Nat} {x y : Nat → Int} {D : Int} {p q : Nat → Rat} (h1 : K1 ≤ M) (h2 : K2 ≤ M) (h3 : K3 ≤ M) (e1 : n = n') (e2 : m = m') (e3 : D = (L : Int)) (e4 : ∀ i, i < n → x i = cX L p i) (e5 : ∀ i, i < m → y i = cX L q i) : AV.le (.d (.agg ([prow K1 n x, prow K2 m y] ++ zn K3 D))) (.d (.agg (cvn M n' m' L p q))) := by
  subst e1; subst e2; subst e3
  refine le_agg fun B w cs hcs => ?_
  match cs, hcs with
  | [a, b, c, d], ⟨k1, k2, k3, k4, k5⟩ => exact ⟨prow_le h1 e4 _ _ _ k1, prow_le h2 e5 _ _ _ k2, k3, lr_mono h3 _ _ _ k4, k5⟩
theorem ls_abd {a b a' b' : Lf} {ds ds' : List Lf} (ha : ∀ B w c, LfR B w a c → LfR B w a' c) (hb : ∀ B w c, LfR B w b c → LfR B w b' c) (hd : ∀ B w cs, LsR B w ds cs → LsR B w ds' cs) : ∀ B w cs, LsR B w (a :: b :: ds) cs → LsR B w ([a', b'] ++ ds') cs
  | B, w, c :: d :: cs, ⟨h1, h2, h3⟩ => ⟨ha _ _ _ h1, hb _ _ _ h2, hd _ _ _ h3⟩

/-! ### Rows of numbers one behind the other -/
def RLe (n : Nat) (el : Nat → Nat → Lf) (K : Nat) (c : Nat → Int) : Prop := ∀ i, i < n → ∀ j, j < 2 → ∀ B w v, LfR B w (el i j) v → LfR B w (zel K c i j) v
theorem rle_one {K L : Nat} {z : Int} (h : K ≤ L) : RLe 1 (fun i' j' => ((zn K z)[i' * 2 + j']?).getD (.v undef)) L (fun i => if i = 0 then z else 0) := by
  intro i hi j hj B w v hv
  obtain rfl : i = 0 := by omega
  match j, hj with
  | 0, _ => exact hv
  | 1, _ => exact lr_mono h _ _ _ hv
theorem rle_z {n K L : Nat} {c : Nat → Int} (h : K ≤ L) : RLe n (zel K c) L c := zel_le h (fun _ _ => rfl)
theorem rle_app {n m K : Nat} {el el2 : Nat → Nat → Lf} {c d : Nat → Int} (h1 : RLe n el K c) (h2 : RLe m el2 K d) : RLe (n + m) (appEl n el el2) K (catF n c d) := by
  intro i hi j hj B w v hv
  unfold appEl at hv
  unfold zel
  by_cases hin : i < n
  · rw [show Nat.ble (i + 1) n = true from Nat.ble_eq_true_of_le hin] at hv
    rw [catF_l hin]
    exact h1 i hin j hj _ _ _ hv
  · rw [show Nat.ble (i + 1) n = false from by rw [← Bool.not_eq_true]; exact fun h => hin (Nat.le_of_ble_eq_true h)] at hv
    rw [catF_r (by omega)]
    exact h2 (i - n) (by omega) j hj _ _ _ hv
theorem catF_z {n m : Nat} {c d : Nat → Int} (h : ∀ i, m ≤ i → d i = 0) : ∀ i, n + m ≤ i → catF n c d i = 0 := fun i hi => by rw [catF_r (by omega)]; exact h _ (by omega)
theorem isp_rle {n K : Nat} {el : Nat → Nat → Lf} {c : Nat → Int} (h : RLe n el K c) (hz : ∀ i, n ≤ i → c i = 0) : IsP (.row 2 n el) K n c := by
  have h0 := isp (K := K) (n := n) hz
  obtain ⟨⟨f, h2, h3⟩, h4⟩ := h0
  exact ⟨⟨f, fun B w v hv => h2 _ _ _ (row_le h _ _ _ hv), h3⟩, h4⟩
/-! ### Rows of rationals -/
def RLeQ (n : Nat) (el : Nat → Nat → Lf) (K : Nat) (c : Nat → Rat) : Prop := ∀ i, i < n → ∀ j, j < 4 → ∀ B w v, LfR B w (el i j) v → LfR B w (qel K c i j) v
theorem rleq {n K L : Nat} {c : Nat → Rat} (h : K ≤ L) : RLeQ n (qel K c) L c := qel_le h (fun _ _ => rfl)
theorem rleq_app {n m K : Nat} {el el2 : Nat → Nat → Lf} {c d : Nat → Rat} (h1 : RLeQ n el K c) (h2 : RLeQ m el2 K d) : RLeQ (n + m) (appEl n el el2) K (catF n c d) := by
  intro i hi j hj B w v hv
  unfold appEl at hv
  unfold qel
  by_cases hin : i < n
  · rw [show Nat.ble (i + 1) n = true from Nat.ble_eq_true_of_le hin] at hv
    rw [catF_l hin]
    exact h1 i hin j hj _ _ _ hv
  · rw [show Nat.ble (i + 1) n = false from by rw [← Bool.not_eq_true]; exact fun h => hin (Nat.le_of_ble_eq_true h)] at hv
    rw [catF_r (by omega)]
    exact h2 (i - n) (by omega) j hj _ _ _ hv
theorem le_rleq {n K : Nat} {el : Nat → Nat → Lf} {c : Nat → Rat} (h : RLeQ n el K c) : AV.le (.d (.one (.row 4 n el))) (.d (.one (qrow K n c))) := le_one (row_le h)

/-! ### Curves -/
def nzD (D : Int) : Int := if D = 0 then 1 else D
theorem nzD_ne (D : Int) : nzD D ≠ 0 := by unfold nzD; split <;> omega
def crL (n m : Nat) (p q : Nat → Rat) : Nat := lcd (catF (dg p n) p q) (dg p n + dg q m)
/-- A NORMAL CURVE of rational coefficients p, q. -/
def crv (K n m : Nat) (p q : Nat → Rat) : List Lf := cvn K (dg p n) (dg q m) (crL n m p q) p q
theorem le_crv {K M n n' m m' : Nat} {p p' q q' : Nat → Rat} (h : K ≤ M) (zp : ∀ i, n ≤ i → p i = 0) (zq : ∀ i, m ≤ i → q i = 0) (zp' : ∀ i, n' ≤ i → p' i = 0) (zq' : ∀ i, m' ≤ i → q' i = 0) (e4 : ∀ i, p i = p' i) (e5 : ∀ i, q i = q' i) : AV.le (.d (.agg (crv K n m p q))) (.d (.agg (crv M n' m' p' q'))) := by
  obtain rfl := funext e4
  obtain rfl := funext e5
  have h1 := dg_eq zp zp'
  have h2 := dg_eq zq zq'
  exact le_cvn h h1 h2 (by unfold crL; rw [h1, h2]) (fun _ _ => rfl) (fun _ _ => rfl)
theorem dg_same {α β : Type} [DecidableEq α] [OfNat α 0] [DecidableEq β] [OfNat β 0] {c : Nat → α} {d : Nat → β} : ∀ {n : Nat}, (∀ i, i < n → (c i = 0 ↔ d i = 0)) → dg c n = dg d n
  | 0, _ => rfl
  | n + 1, h => by
    unfold dg
    by_cases h0 : c n = 0
    · rw [if_pos h0, if_pos ((h n (by omega)).1 h0), dg_same (n := n) (fun i hi => h i (by omega))]
    · rw [if_neg h0, if_neg (fun e => h0 ((h n (by omega)).2 e))]
theorem dg_dg {α : Type} [DecidableEq α] [OfNat α 0] (c : Nat → α) (n : Nat) : dg c (dg c n) = dg c n := dg_stop dg_or
theorem ov_z {D : Int} (hD : D ≠ 0) {c : Nat → Int} {i : Nat} : ov D c i = 0 ↔ c i = 0 := by
  rw [ov_div hD]
  constructor
  · intro h
    have h1 := congrArg Rat.num h
    rw [Rat.num_divInt] at h1
    have h2 : (Int.gcd D (c i) : Int) ∣ D.sign * c i := Int.dvd_trans (Int.gcd_dvd_right _ _) (Int.dvd_mul_left _ _)
    have h3 : D.sign * c i = 0 := by
      have := Int.ediv_mul_cancel h2
      rw [h1] at this
      rw [← this]; exact Int.zero_mul _
    rcases Int.mul_eq_zero.1 h3 with h4 | h4
    · exact absurd (Int.sign_eq_zero_iff_zero.1 h4) hD
    · exact h4
  · intro h; rw [h]; exact Rat.zero_divInt D
theorem ov_zz {D : Int} (hD : D ≠ 0) {c : Nat → Int} {n : Nat} (h : ∀ i, n ≤ i → c i = 0) : ∀ i, n ≤ i → ov D c i = 0 := fun i hi => (ov_z hD).2 (h i hi)
theorem dg_ov {D : Int} (hD : D ≠ 0) (c : Nat → Int) (n : Nat) : dg (ov D c) n = dg c n := dg_same fun i _ => ov_z hD
/-- Each over a number. -/
def fdv (c : Nat → Int) (g : Int) : Nat → Int := fun i => c i / g
theorem fdv_z {c : Nat → Int} {g : Int} {n : Nat} (h : ∀ i, n ≤ i → c i = 0) : ∀ i, n ≤ i → fdv c g i = 0 := fun i hi => by unfold fdv; rw [h i hi]; exact Int.zero_ediv _
theorem dg_fdv {c : Nat → Int} {g : Int} {n : Nat} (hg : g ≠ 0) (h : ∀ i, i < n → g ∣ c i) : dg (fdv c g) n = dg c n := dg_same fun i hi => by
  obtain ⟨e, he⟩ := h i hi
  unfold fdv
  rw [he, Int.mul_ediv_cancel_left _ hg]
  constructor
  · rintro rfl; rw [Int.mul_zero]
  · intro h; rcases Int.mul_eq_zero.1 h with h | h; exact absurd h hg; exact h
section
variable {D : Int} {n m K1 K2 K3 M : Nat} {x y : Nat → Int}
/-- WHAT norm MAKES. -/
theorem le_norm (hD : D ≠ 0) (h1 : K1 ≤ M) (h2 : K2 ≤ M) (h3 : K3 ≤ M) : AV.le (.d (.agg ([prow K1 (dg (fdv x (gS D (gD D (dg x n) x (dg y m) y))) (dg x n)) (fdv x (gS D (gD D (dg x n) x (dg y m) y))), prow K2 (dg (fdv y (gS D (gD D (dg x n) x (dg y m) y))) (dg y m)) (fdv y (gS D (gD D (dg x n) x (dg y m) y)))] ++ zn K3 (D / gS D (gD D (dg x n) x (dg y m) y))))) (.d (.agg (crv M n m (ov D x) (ov D y)))) := by
  have hg := gS_ne (D := D) (gD_pos (n := dg x n) (m := dg y m) (x := x) (y := y) hD)
  have hgx : ∀ i, i < dg x n → gS D (gD D (dg x n) x (dg y m) y) ∣ x i := fun i hi => gS_dvd (gD_x hi)
  have hgy : ∀ i, i < dg y m → gS D (gD D (dg x n) x (dg y m) y) ∣ y i := fun i hi => gS_dvd (gD_y hi)
  have hL : D / gS D (gD D (dg x n) x (dg y m) y) = (crL n m (ov D x) (ov D y) : Int) := by unfold crL; rw [dg_ov hD, dg_ov hD]; exact nc_D hD
  have hd1 := dg_fdv hg hgx
  have hd2 := dg_fdv hg hgy
  rw [dg_dg] at hd1 hd2
  refine le_cvn3 h1 h2 h3 (by rw [hd1, dg_ov hD]) (by rw [hd2, dg_ov hD]) hL (fun i hi => ?_) (fun i hi => ?_)
  · unfold cX; rw [ov_div hD]; exact nc_x hD hg (gS_dvd gD_D) (hgx i (by omega)) hL
  · unfold cX; rw [ov_div hD]; exact nc_x hD hg (gS_dvd gD_D) (hgy i (by omega)) hL
end
theorem isp_g {K K1 K2 K3 n m : Nat} {D : Int} {x y : Nat → Int} (h1 : K1 ≤ K) (h2 : K2 ≤ K) (h3 : K3 ≤ K) (hy : ∀ i, m ≤ i → y i = 0) : IsP (.row 2 (1 + n + m) (appEl (1 + n) (appEl 1 (fun i' j' => ((zn K3 D)[i' * 2 + j']?).getD (.v undef)) (zel K1 x)) (zel K2 y))) K (1 + n + m) (catF (1 + n) (catF 1 (fun i => if i = 0 then D else 0) x) y) :=
  isp_rle (rle_app (rle_app (rle_one h3) (rle_z h1)) (rle_z h2)) (catF_z hy)

theorem ov_one (x : Nat → Int) (i : Nat) : ov (nzD 0) x i = rc x i := by
  show rc x i * mkR 1 (nzD 0) = rc x i
  rw [show nzD 0 = 1 from rfl, mkR_int]
  exact Rat.mul_one _
theorem cX_den {L : Nat} {p : Nat → Rat} {i : Nat} (h : (p i).den ∣ L) : rc (cX L p) i = p i * mkR (L : Int) 1 := by
  obtain ⟨e, rfl⟩ := h
  have h := mkR_div (x := (p i).num) (y := ((p i).den : Int)) (by have := (p i).den_pos; omega)
  rw [mkR_self] at h
  have h2 : p i * mkR (((p i).den * e : Nat) : Int) 1 = (((p i).num * (e : Int) : Int) : Rat) := by
    rw [mkR_int, Int.natCast_mul, Rat.intCast_mul, ← Rat.mul_assoc, h, ← Rat.intCast_mul]
  show (((p i * mkR (((p i).den * e : Nat) : Int) 1).num : Int) : Rat) = _
  rw [h2, Rat.num_intCast]
theorem ov_cX {L : Nat} {p : Nat → Rat} {i : Nat} (h : (p i).den ∣ L) (hL : L ≠ 0) : ov (L : Int) (cX L p) i = p i := by
  show rc (cX L p) i * mkR 1 (L : Int) = _
  rw [cX_den h, Rat.mul_assoc]
  have h1 := mkR_div (x := 1) (y := (L : Int)) (by omega)
  rw [mkR_int, Rat.mul_comm ((L : Int) : Rat), h1]
  exact Rat.mul_one _
theorem crL_pos {n m : Nat} {p q : Nat → Rat} : 0 < crL n m p q := lcd_pos _
theorem nzD_crL {n m : Nat} {p q : Nat → Rat} : nzD (crL n m p q : Int) = (crL n m p q : Int) := if_neg (by have := crL_pos (n := n) (m := m) (p := p) (q := q); omega)
theorem ov_crL {n m : Nat} {p q : Nat → Rat} (zp : ∀ i, n ≤ i → p i = 0) (i : Nat) : ov (nzD (crL n m p q : Int)) (cX (crL n m p q) p) i = p i := by
  rw [nzD_crL]
  have h0 := crL_pos (n := n) (m := m) (p := p) (q := q)
  by_cases h : i < dg p n
  · refine ov_cX ?_ (by omega)
    have := lcd_dvd (q := catF (dg p n) p q) (i := i) (n := dg p n + dg q m) (by omega)
    rwa [catF_l h] at this
  · have hp : p i = 0 := dg_z zp i (by omega)
    rw [hp, ov_z (by omega)]
    unfold cX; rw [hp, Rat.zero_mul]; rfl
theorem ov_crL2 {n m : Nat} {p q : Nat → Rat} (zq : ∀ i, m ≤ i → q i = 0) (i : Nat) : ov (nzD (crL n m p q : Int)) (cX (crL n m p q) q) i = q i := by
  rw [nzD_crL]
  have h0 := crL_pos (n := n) (m := m) (p := p) (q := q)
  by_cases h : i < dg q m
  · refine ov_cX ?_ (by omega)
    have := lcd_dvd (q := catF (dg p n) p q) (i := dg p n + i) (n := dg p n + dg q m) (by omega)
    rwa [catF_r (by omega), Nat.add_sub_cancel_left] at this
  · have hp : q i = 0 := dg_z zq i (by omega)
    rw [hp, ov_z (by omega)]
    unfold cX; rw [hp, Rat.zero_mul]; rfl
/-- A row moved: c at t + r. -/
def shf (c : Nat → Rat) (n : Nat) (r : Rat) : Nat → Rat := hvQ c r n n
theorem shf_z {c : Nat → Rat} {n : Nat} {r : Rat} : ∀ i, n ≤ i → shf c n r i = 0 := hvQ_z n
theorem mv_ov {x : Nat → Int} {u y : Int} {n k : Nat} (hy : ¬ y = 0) (hk : n - 1 ≤ k) (i : Nat) : ov (nzD (y ^ k)) (fscl (mvZ x u y n n) (y ^ (k - (n - 1)))) i = shf (rc x) n (mkR u y) i := by
  have hyk : y ^ k ≠ 0 := Int.pow_ne_zero hy
  rw [show nzD (y ^ k) = y ^ k from if_neg hyk]
  have h := mv_hv (a := x) (x := u) (y := y) (top := n) hy n i
  have hY : ((y : Int) : Rat) ≠ 0 := fun e => hy (Rat.intCast_eq_zero_iff.1 e)
  have hYk : (y : Rat) ^ k ≠ 0 := pow_ne hY k
  have h1 := mkR_div (x := 1) (y := y ^ k) hyk
  rw [cast_pow] at h1
  show ((mvZ x u y n n i * y ^ (k - (n - 1)) : Int) : Rat) * mkR 1 (y ^ k) = hvQ (rc x) (mkR u y) n n i
  rw [Rat.intCast_mul, cast_pow]
  have h2 : ((mvZ x u y n n i : Int) : Rat) * (y : Rat) ^ (k - (n - 1)) = hvQ (rc x) (mkR u y) n n i * (y : Rat) ^ k := by
    cases n with
    | zero => show ((0 : Int) : Rat) * _ = (0 : Rat) * _; rw [Rat.zero_mul]; exact Rat.zero_mul _
    | succ s =>
      rw [Nat.add_sub_cancel] at hk ⊢
      have h3 : ((mvZ x u y (s + 1) (s + 1) i : Int) : Rat) = (y : Rat) ^ s * hvQ (rc x) (mkR u y) (s + 1) (s + 1) i := by
        rw [Rat.pow_succ] at h
        have : (((mvZ x u y (s + 1) (s + 1) i : Int) : Rat) - (y : Rat) ^ s * hvQ (rc x) (mkR u y) (s + 1) (s + 1) i) * (y : Rat) = 0 := by grind
        rcases Rat.mul_eq_zero.1 this with h4 | h4
        · grind
        · exact absurd h4 hY
      rw [h3]
      have h5 : (y : Rat) ^ k = (y : Rat) ^ s * (y : Rat) ^ (k - s) := by
        obtain ⟨d, rfl⟩ : ∃ d, k = s + d := ⟨k - s, by omega⟩
        rw [Nat.add_sub_cancel_left, pow_addQ]
      rw [h5]; grind
  rw [h2]
  have h6 : (y : Rat) ^ k * mkR 1 (y ^ k) = 1 := by rw [Rat.mul_comm]; exact h1
  rw [Rat.mul_assoc, h6]; exact Rat.mul_one _
end Go.Proofs.Ytpnoklbijfmoaaa

/-
  THE ABSTRACT MACHINE, 22: a row written out that is the frame's own (it may be appended to). No condition; nothing of the program.
-/
set_option linter.unusedVariables false
set_option linter.unusedSimpArgs false
namespace Go.Proofs.Ytpnoklbijfmoaaa
open Go.RowKit

/-- A row written out, the frame's own. -/
def evR (T : TypeId → Option TI) (s : AS) : Op → Option AO
  | .buildSlice t len parts => match T t with
    | none => none
    | some ti => match ti.elem with
      | none => none
      | some e => match T e, getps s parts.toList with
        | some te, some ps => if te.zero.length = te.n ∧ te.n ≠ 0 ∧ len * te.n ≤ 16777216 then match fillL (fun i => some (i * te.n, te.n)) ((List.range (len * te.n)).map fun q => Lf.v ((te.zero[q % te.n]?).getD undef)) ps with
          | some r => some (.row e te.n len fun i j => (r[i * te.n + j]?).getD (.v undef))
          | none => none
          else none
        | _, _ => none
  | _ => none

theorem evR_ok {P : Program} {T : TypeId → Option TI} (hT : TOk P T) {s : AS} {o : Oper} {ob : AO} {ρ : Rho} {B0 : BS} {w0 : Wz} {w : World} {hp : List (Nat × AO)} {a : Act} (hsl : Slots ρ (Bd ρ B0) w s.sl a) (hc : Core ρ B0 w0 w hp) (h : evR T s o.op = some ob) :
    ∃ v w', (execOp a.eval o).run P w = .ok (.value v) w' ∧ Below w.heap.size w w' ∧ (∀ b, vblk v = some b → w.heap.size ≤ b) ∧ ∀ B', (∀ b, b < w.heap.size → B' b → Bd ρ B0 b) → OR B' w0 w' ob v := by
  unfold evR at h
  unfold execOp
  split at h
  · rename_i t len parts hop
    rw [hop]
    split at h
    · cases h
    rename_i ti hti
    replace hti := hT _ _ hti
    split at h
    · cases h
    rename_i e he
    split at h
    · rename_i te ps hte hps
      replace hte := hT _ _ hte
      split at h
      · rename_i hcond
        obtain ⟨hzl, hn0, hsm⟩ := hcond
        split at h
        · rename_i r hr
          cases h
          obtain ⟨i, z, dd, h1, h2, h3, h4, h5, h6, h7, h8, h9, _⟩ := ti_parts hti
          have := h9 e he
          subst this
          obtain ⟨i', z', dd', k1, k2, k3, k4, k5, k6, k7, _, _, _, _, hall⟩ := ti_parts hte
          have hz' : z'.cells = te.zero.toArray := by rw [← k5]
          obtain ⟨g1, g2⟩ := getps_ok hsl parts.toList ps hps
          have hpos : 0 < te.n := by omega
          have hbase : LsR (Bd ρ B0) w ((List.range (len * te.n)).map fun q => Lf.v ((te.zero[q % te.n]?).getD undef)) ((List.range (len * te.n)).map fun q => (te.zero[q % te.n]?).getD undef) := by
            have := LsR.vs (B := Bd ρ B0) (w := w) (cs := (List.range (len * te.n)).map fun q => (te.zero[q % te.n]?).getD undef) (fun c hcm => by
              obtain ⟨q, _, rfl⟩ := List.mem_map.1 hcm
              rw [List.getElem?_eq_getElem (show q % te.n < te.zero.length by rw [hzl]; exact Nat.mod_lt _ hpos)]
              exact hall _ (List.getElem_mem _))
            rwa [List.map_map] at this
          obtain ⟨rs, hfill, hrs⟩ := fillL_ok (fun i => some (i * te.n, te.n)) ps _ _ r _ hbase hr g1 g2
          have hrl : ∀ (ps : List (Nat × List Lf)) (l r : List Lf), fillL (fun i => some (i * te.n, te.n)) l ps = some r → r.length = l.length := by
            intro ps
            induction ps with
            | nil => intro l r h; simp only [fillL, Option.some.injEq] at h; rw [h]
            | cons p ps ih =>
              intro l r h
              simp only [fillL] at h
              split at h
              · rename_i hcnd
                rw [ih _ _ h]
                simp [layC]; omega
              · cases h
          have hlen : rs.length = len * te.n := by rw [← hrs.len, hrl _ _ _ hr]; simp
          have hm : (parts.map fun x : Nat × Operand => match x with | (i, x) => (i, a.eval x)).toList = parts.toList.map fun q : Nat × Operand => (q.1, a.eval q.2) := by rw [Array.toList_map]
          have hgt : ¬ len * i'.size > 2 ^ 24 := by rw [k4]; omega
          have hrun : (Instr.buildSlice t len (parts.map fun x : Nat × Operand => match x with | (i, x) => (i, a.eval x))).run P w = .ok (.slice (some ⟨w.heap.size, 0, none⟩) len len) (w.alloc (.cells rs.toArray e)) := by
            have hA : ∀ zc : Array Value, (len * te.n = 0 ∨ zc = te.zero.toArray) → (Array.range (len * te.n)).map (fun q => zc[q % zc.size]!) = ((List.range (len * te.n)).map fun q => (te.zero[q % te.n]?).getD undef).toArray := by
              rintro zc (h0 | rfl)
              · rw [h0]; simp
              · rw [← Array.toList_inj]
                simp only [Array.toList_map, Array.toList_range]
                refine List.map_congr_left (fun q _ => ?_)
                have hq : q % te.n < te.zero.length := by rw [hzl]; exact Nat.mod_lt _ hpos
                simp [hzl, getElem!_def, List.getElem?_eq_getElem hq]
            have hfin : ∀ zc : Array Value, (len * te.n = 0 ∨ zc = te.zero.toArray) → (do
                let some cells := Instr.fill (fun i => some (i * te.n, te.n)) ((Array.range (len * te.n)).map (fun q => zc[q % zc.size]!)) (parts.map fun x : Nat × Operand => match x with | (i, x) => (i, a.eval x)).toList | stuck "buildSlice: a part of the wrong size"
                pure (.slice (some (← newRow e cells)) len len) : Sem Value).run P w = .ok (.slice (some ⟨w.heap.size, 0, none⟩) len len) (w.alloc (.cells rs.toArray e)) := by
              intro zc hz
              rw [hA zc hz, hm, hfill]
              rfl
            unfold Instr.buildSlice
            simp only [Sem.run_bind, run_underlying h3, Result.andThen_ok, sizeOf, typeInfo, run_program, k1, Sem.run_pure, k4]
            rw [if_neg (by omega)]
            by_cases hl0 : len * te.n = 0
            · rw [if_pos hl0]
              simp only [Sem.run_pure, Result.andThen_ok, Sem.run_bind]
              exact hfin #[] (Or.inl hl0)
            · rw [if_neg hl0]
              simp only [Sem.run_bind, zeroValue, typeInfo, run_program, Result.andThen_ok, k1, Sem.run_pure, k2, hz']
              exact hfin _ (Or.inr rfl)
          have hlm : len ≤ maxLen := by
            have : len * 1 ≤ len * te.n := Nat.mul_le_mul_left _ hpos
            simp [maxLen]; omega
          refine ⟨_, _, run_value hrun, alloc_bel _ _, fun b hb => by cases hb; exact Nat.le_refl _, fun B' hB => ⟨rs, ⟨⟨hlen, Or.inr ⟨w.heap.size, len, rs.toArray, rfl, Nat.zero_le _, heap_alloc_new w _, Nat.le_refl _, hlm, by simp [hlen], by simp [← hlen]⟩⟩, fun b hb => by cases hb; exact Or.inl hc.bel.size⟩, fun p q hp hq => ?_⟩⟩
          have hidx : p * te.n + q < len * te.n := by
            have : (p + 1) * te.n ≤ len * te.n := Nat.mul_le_mul_right _ (by omega)
            rw [Nat.add_mul, Nat.one_mul] at this
            omega
          have hrlen : r.length = len * te.n := by rw [hrs.len, hlen]
          obtain ⟨l, hl⟩ : ∃ l, r[p * te.n + q]? = some l := ⟨r[p * te.n + q], by simp [hrlen, hidx]⟩
          obtain ⟨cc, hcc, hlr⟩ := hrs.get hl
          refine ⟨cc, hcc, ?_⟩
          show LfR _ _ ((r[p * te.n + q]?).getD _) cc
          rw [hl]
          exact LfR.mv (.of_below (alloc_bel _ _)) hB _ hlr
        · cases h
      · cases h
    · cases h
  · cases h


section
variable {P : Program} {ops : Array Oper} {Q : Qs} {o : Oper} {l : List Oper} {s : AS}
theorem mR {T : TypeId → Option TI} (hT : TOk P T) (ob : AO) (h : evR T s o.op = some ob) {d : Nat} (hdst : o.dst = some d) (hfr : lk s.hp d = none) (k : AL P ops Q l (s.mk' d ob)) (hg : gst ops s o = some true := by rfl) (hd : dok (some d) s.n = true := by rfl) : AL P ops Q (o :: l) s := by
  rintro B0 w0 a w ⟨ρ, hc, hn, hdf, hs⟩
  obtain ⟨v, w', hr, hb, hv, ho⟩ := evR_ok hT hs hc h
  have hρ : ρ d = none := by
    cases hρ : ρ d with
    | none => rfl
    | some u => obtain ⟨ob', h1, _⟩ := hc.obj d u hρ; rw [hfr] at h1; cases h1
  have ho' := ho (Bd (up ρ d v) B0) (up_new hρ hv)
  have hc' : Core (up ρ d v) B0 w0 w' ((d, ob) :: s.hp) := hc.new hρ hb hv (fun k ob hk hne => by rw [lk_cons, if_neg (fun e => hne e.symm)]; exact hk) (by rw [lk_cons, if_pos rfl]) ho'
  have hs' : Slots (up ρ d v) (Bd (up ρ d v) B0) w' s.sl a := fun t av ht => let ⟨u, h1, h2⟩ := hs t av ht; ⟨u, h1, h2.new hρ hb hv⟩
  refine wpl_value (gst_ok hg hs) hr (k B0 w0 _ w' ?_)
  rw [hdst]
  exact ⟨_, hc', (by show (a.tmps.setIfInBounds d v).size = s.n; simpa using hn), hdf, slots_put hs' hn (Nat.le_of_ble_eq_true hd) (AO.av_ok ho' (by simp [up]))⟩
end

theorem append_ty {P : Program} {t t' ty e e' : TypeId} {args : Array Value} {w : World} (h : P.underlying t = some (.slice e)) (h' : P.underlying t' = some (.slice e')) : (Builtin.append_ #[t, t'] ty args).run P w = (Builtin.append_ #[t, t] ty args).run P w := by
  unfold Builtin.append_
  cases args[0]? with
  | none => simp
  | some s => cases args[1]? with
    | none => simp
    | some x => cases s <;> simp [Sem.run_bind, run_underlying h, run_underlying h']
set_option maxHeartbeats 4000000 in
theorem mA2 {P : Program} {T : TypeId → Option TI} (hT : TOk P T) {ops : Array Oper} {Q : Qs} {o : Oper} {l : List Oper} {s : AS} {c : Call} {x y : Operand} {t t2 e e2 : TypeId} {ti ti2 te : TI} {id n m d : Nat} {el el2 : Nat → Nat → Lf}
    (hx : geto s x = some (.own id)) (hob : lk s.hp id = some (.row e te.n n el)) (hy : srcOf s y te.n = some (m, el2)) (hbd : (n + m) * te.bytes ≤ 140737488355328) (hmx : n + m ≤ 9223372036854775807) (hc : callOf o.op = some c) (hcal : c.callee = .builtin .append) (hargs : c.args.toList = [x, y]) (hty : c.argTypes.toList = [t, t2]) (hti2 : T t2 = some ti2) (he2 : ti2.elem = some e2) (hti : T t = some ti) (he : ti.elem = some e) (hte : T e = some te) (hz : Nat.beq te.zero.length te.n = true) (h0 : Nat.ble 1 te.n = true)
    (hdst : o.dst = some d) (k : AL P ops Q l ⟨s.n, (d, .own id) :: fzs id .dead (fun _ => .dead) s.sl, (id, .row e te.n (n + m) (appEl n el el2)) :: s.hp⟩) (hg : gst ops s o = some true := by rfl) (hd : dok (some d) s.n = true := by rfl) : AL P ops Q (o :: l) s := by
  rintro B0 w0 a w ⟨ρ, hcr, hn, hdf, hs⟩
  have hop : o.op = .call c := by
    unfold callOf at hc
    split at hc
    · rename_i h; cases hc; exact h
    · cases hc
  obtain ⟨hid, ad, n', cap, hxe⟩ := geto_ok hs hx
  obtain ⟨ob, o1, o2⟩ := hcr.obj id _ hid
  rw [hob] at o1
  cases o1
  obtain ⟨xs, hown, hel⟩ := o2
  obtain ⟨ao, cc, news, hye, hnl, hnil, hmc, hsrc, hel2⟩ := srcOf_ok hs hy
  obtain ⟨i, z, dd, h1, h2, h3, h4, h5, h6, h7, h8, h9, _⟩ := ti_parts (hT _ _ hti)
  have := h9 e he
  subst this
  obtain ⟨i', z', dd', k1, k2, k3, k4, k5, k6, k7, _⟩ := ti_parts (hT _ _ hte)
  have hzl : te.zero.length = te.n := Nat.eq_of_beq_eq_true hz
  have hsz : 0 < te.n := Nat.le_of_ble_eq_true h0
  have hzs : z'.cells.size = te.n := by rw [← hzl, ← k5]; simp
  have hone : ∀ u ∈ news, u.oneCell' = true := by
    intro u hu
    obtain ⟨q, hq, rfl⟩ := List.mem_iff_getElem.1 hu
    rw [hnl] at hq
    have hdiv : q / te.n < m := Nat.div_lt_of_lt_mul (by rw [Nat.mul_comm]; exact hq)
    obtain ⟨u, hu1, hu2⟩ := hel2 (q / te.n) (q % te.n) hdiv (Nat.mod_lt _ hsz)
    rw [Nat.mul_comm, Nat.div_add_mod] at hu1
    obtain ⟨_, hu3⟩ := List.getElem?_eq_some_iff.1 hu1
    rw [hu3]; exact hu2.one
  obtain ⟨v', w', hr, hown', hgrow, hblk⟩ := run_append_am (P := P) (w := w) 0 t o.type e i' z' te.n te.bytes h3 k1 k2 k4 k7 hzs hsz (a.eval x) n xs hown.1 ao m cc news hnl hnil hmc hsrc hone (by simp [maxLen]; omega) hbd (Nat.zero_le _)
  obtain ⟨_, _, dd2, _, _, g3, _, _, _, _, _, g9, _⟩ := ti_parts (hT _ _ hti2)
  have := g9 e2 he2
  subst this
  have hr := (append_ty (ty := o.type) (args := #[a.eval x, .slice ao m cc]) (w := w) h3 g3).trans hr
  have hrun : (execOp a.eval o).run P w = .ok (.value v') w' := by
    have ha : c.args = #[x, y] := by rw [← Array.toList_inj]; exact hargs
    have ht : c.argTypes = #[t, t2] := by rw [← Array.toList_inj]; exact hty
    unfold execOp
    rw [hop]
    simp [resolve, hcal, invoke, builtin, ha, ht, hye, hr]
  have hvb : ∀ b, (a.eval x).ownBlock = some b → vblk (a.eval x) = some b := by
    intro b hb
    rw [hxe] at hb ⊢
    cases ad with
    | none => cases hb
    | some q => exact hb
  have hb0 : Below 0 w w' := (Below.refl _ _).grown hgrow (Nat.zero_le _) (fun k hk => Nat.zero_le _)
  have hbel : Bel w0 w' := hcr.bel.put hb0.os hb0.tape hb0.output hgrow.size (g := fun b => vblk (a.eval x) = some b) (fun b e => hown.2 b e) (fun b hb hne => hgrow.block b hb (fun e => hne (hvb b e.symm)))
  have hkeepb : ∀ b, b < w.heap.size → vblk (a.eval x) ≠ some b → w'.heap[b]? = w.heap[b]? := fun b hb hne => hgrow.block b hb (fun e => hne (hvb b e.symm))
  have hK : Keep (Bd ρ B0) w w' := ⟨hgrow.size, fun b hb hB => hkeepb b hb (fun e => hB (Or.inr ⟨id, _, hid, e⟩))⟩
  have hB' : ∀ b, b < w.heap.size → Bd (up ρ id v') B0 b → Bd ρ B0 b := by
    rintro b hb (h | ⟨k, u, q1, q2⟩)
    · exact Or.inl h
    · unfold up at q1
      split at q1
      · cases q1
        rcases hblk b q2 with q3 | q3
        · exact Or.inr ⟨id, _, hid, q3⟩
        · omega
      · exact Or.inr ⟨k, u, q1, q2⟩
  have hW := Core.write (v' := v') (ob' := .row e te.n (n + m) (appEl n el el2)) (hp' := (id, .row e te.n (n + m) (appEl n el el2)) :: s.hp) hcr hid (w' := w') hkeepb hgrow.size hbel hblk
    (fun k ob hk hne => by rw [lk_cons, if_neg (fun e => hne e.symm)]; exact hk) (by rw [lk_cons, if_pos rfl])
    ⟨xs ++ news, ⟨hown', fun b hb => (hblk b hb).elim (hown.2 b) (fun h => Or.inl (Nat.le_trans hcr.bel.size h))⟩, fun p q hp hq => by
      have hxl := hown.1.1
      by_cases hpn : p < n
      · obtain ⟨u, hu1, hu2⟩ := hel p q hpn hq
        have hidx := (List.getElem?_eq_some_iff.1 hu1).1
        refine ⟨u, by rw [List.getElem?_append_left hidx]; exact hu1, ?_⟩
        have : appEl n el el2 p q = el p q := by
          unfold appEl; rw [show Nat.ble (p + 1) n = true from Nat.ble_eq_true_of_le hpn]; rfl
        rw [this]
        exact LfR.mv hK hB' _ hu2
      · obtain ⟨u, hu1, hu2⟩ := hel2 (p - n) q (by omega) hq
        have hpm : p * te.n + q = n * te.n + ((p - n) * te.n + q) := by
          rw [← Nat.add_assoc, ← Nat.add_mul]
          congr 2
          omega
        refine ⟨u, by rw [hpm, List.getElem?_append_right (by omega), hxl, Nat.add_sub_cancel_left]; exact hu1, ?_⟩
        have : appEl n el el2 p q = el2 (p - n) q := by
          unfold appEl; rw [show Nat.ble (p + 1) n = false from by rw [← Bool.not_eq_true]; exact fun h => hpn (Nat.le_of_ble_eq_true h)]; rfl
        rw [this]
        exact LfR.mv hK hB' _ hu2⟩
  refine wpl_value (gst_ok hg hs) hrun (k B0 w0 _ w' ⟨up ρ id v', hW.1, by rw [hdst]; show (a.tmps.setIfInBounds d v').size = s.n; simpa using hn, by rw [hdst]; exact hdf, ?_⟩)
  rw [hdst]
  have hsl2 : Slots (up ρ id v') (Bd (up ρ id v') B0) w' (fzs id .dead (fun _ => .dead) s.sl) a := by
    intro u av hu
    obtain ⟨av', q1, rfl⟩ := lk_fzs _ _ _ hu
    obtain ⟨v, q2, q3⟩ := hs u av' q1
    refine ⟨v, q2, ?_⟩
    have keep : (∀ k, av'.on k = true → k ≠ id) → AR (up ρ id v') (Bd (up ρ id v') B0) w' av' v := fun hne => AR.mv hK hB' (fun k hk => by unfold up; rw [if_neg (hne k hk)]) q3
    cases av' with
    | own k =>
      show AR _ _ _ (bif Nat.beq k id then .dead else .own k) v
      cases e : Nat.beq k id with
      | true => trivial
      | false => exact keep (fun k' hk' => by have : k = k' := Nat.eq_of_beq_eq_true hk'; rintro rfl; rw [this, Nat.beq_refl] at e; cases e)
    | ptr k off =>
      show AR _ _ _ (bif Nat.beq k id then .dead else .ptr k off) v
      cases e : Nat.beq k id with
      | true => trivial
      | false => exact keep (fun k' hk' => by have : k = k' := Nat.eq_of_beq_eq_true hk'; rintro rfl; rw [this, Nat.beq_refl] at e; cases e)
    | eptr k sz i j =>
      show AR _ _ _ (bif Nat.beq k id then .dead else .eptr k sz i j) v
      cases e : Nat.beq k id with
      | true => trivial
      | false => exact keep (fun k' hk' => by have : k = k' := Nat.eq_of_beq_eq_true hk'; rintro rfl; rw [this, Nat.beq_refl] at e; cases e)
    | lim k j =>
      show AR _ _ _ (bif Nat.beq k id then .dead else .lim k j) v
      cases e : Nat.beq k id with
      | true => trivial
      | false => exact keep (fun k' hk' => by have : k = k' := Nat.eq_of_beq_eq_true hk'; rintro rfl; rw [this, Nat.beq_refl] at e; cases e)
    | ptup k j =>
      show AR _ _ _ (bif Nat.beq k id then .dead else .ptup k j) v
      cases e : Nat.beq k id with
      | true => trivial
      | false => exact keep (fun k' hk' => by have : k = k' := Nat.eq_of_beq_eq_true hk'; rintro rfl; rw [this, Nat.beq_refl] at e; cases e)
    | wit k =>
      show AR _ _ _ (bif Nat.beq k id then .dead else .wit k) v
      cases e : Nat.beq k id with
      | true => trivial
      | false => exact keep (fun k' hk' => by have : k = k' := Nat.eq_of_beq_eq_true hk'; rintro rfl; rw [this, Nat.beq_refl] at e; cases e)
    | d x => exact keep (fun k hk => by cases hk)
    | tup x => exact keep (fun k hk => by cases hk)
    | dead => trivial
  refine slots_put hsl2 hn (Nat.le_of_ble_eq_true hd) ⟨by simp [up], ?_⟩
  obtain ⟨_, ⟨rfl, _⟩ | ⟨g, cap', cur, rfl, _⟩⟩ := hown'
  · exact ⟨none, 0, 0, rfl⟩
  · exact ⟨_, _, _, rfl⟩

set_option maxHeartbeats 4000000 in
/-- APPEND to nil: a new row of the frame's own. -/
theorem mA0 {P : Program} {T : TypeId → Option TI} (hT : TOk P T) {ops : Array Oper} {Q : Qs} {o : Oper} {l : List Oper} {s : AS} {c : Call} {x y : Operand} {t t2 e e2 : TypeId} {ti ti2 te : TI} {m d : Nat} {el2 : Nat → Nat → Lf}
    (hx : geto s x = some (.d (.one (.v (.slice none 0 0))))) (hc : callOf o.op = some c) (hcal : c.callee = .builtin .append) (hargs : c.args.toList = [x, y]) (hty : c.argTypes.toList = [t, t2]) (hti2 : T t2 = some ti2) (he2 : ti2.elem = some e2) (hti : T t = some ti) (he : ti.elem = some e) (hte : T e = some te) (hz : Nat.beq te.zero.length te.n = true) (h0 : Nat.ble 1 te.n = true) (hy : srcOf s y te.n = some (m, el2)) (hbd : m * te.bytes ≤ 140737488355328) (hmx : m ≤ 9223372036854775807)
    (hdst : o.dst = some d) (hfr : lk s.hp d = none) (k : AL P ops Q l (s.mk' d (.row e te.n m el2))) (hg : gst ops s o = some true := by rfl) (hd : dok (some d) s.n = true := by rfl) : AL P ops Q (o :: l) s := by
  rintro B0 w0 a w ⟨ρ, hcr, hn, hdf, hs⟩
  have hop : o.op = .call c := by
    unfold callOf at hc
    split at hc
    · rename_i h; cases hc; exact h
    · cases hc
  have hxe : a.eval x = .slice none 0 0 := (geto_ok hs hx).1
  obtain ⟨ao, cc, news, hye, hnl, hnil, hmc, hsrc, hel2⟩ := srcOf_ok hs hy
  obtain ⟨i, z, dd, h1, h2, h3, h4, h5, h6, h7, h8, h9, _⟩ := ti_parts (hT _ _ hti)
  have := h9 e he
  subst this
  obtain ⟨i', z', dd', k1, k2, k3, k4, k5, k6, k7, _⟩ := ti_parts (hT _ _ hte)
  have hzl : te.zero.length = te.n := Nat.eq_of_beq_eq_true hz
  have hsz : 0 < te.n := Nat.le_of_ble_eq_true h0
  have hzs : z'.cells.size = te.n := by rw [← hzl, ← k5]; simp
  have hone : ∀ u ∈ news, u.oneCell' = true := by
    intro u hu
    obtain ⟨q, hq, rfl⟩ := List.mem_iff_getElem.1 hu
    rw [hnl] at hq
    have hdiv : q / te.n < m := Nat.div_lt_of_lt_mul (by rw [Nat.mul_comm]; exact hq)
    obtain ⟨u, hu1, hu2⟩ := hel2 (q / te.n) (q % te.n) hdiv (Nat.mod_lt _ hsz)
    rw [Nat.mul_comm, Nat.div_add_mod] at hu1
    obtain ⟨_, hu3⟩ := List.getElem?_eq_some_iff.1 hu1
    rw [hu3]; exact hu2.one
  have hown : w.ownsRow 0 e te.n (.slice none 0 0) 0 [] := ⟨by simp, Or.inl ⟨rfl, rfl⟩⟩
  obtain ⟨v', w', hr, hown', hgrow, hblk⟩ := run_append_am (P := P) (w := w) 0 t o.type e i' z' te.n te.bytes h3 k1 k2 k4 k7 hzs hsz (.slice none 0 0) 0 [] hown ao m cc news hnl hnil hmc hsrc hone (by simp [maxLen]; omega) (by rw [Nat.zero_add]; exact hbd) (Nat.zero_le _)
  obtain ⟨_, _, dd2, _, _, g3, _, _, _, _, _, g9, _⟩ := ti_parts (hT _ _ hti2)
  have := g9 e2 he2
  subst this
  have hr := (append_ty (ty := o.type) (args := #[.slice none 0 0, .slice ao m cc]) (w := w) h3 g3).trans hr
  have hrun : (execOp a.eval o).run P w = .ok (.value v') w' := by
    have ha : c.args = #[x, y] := by rw [← Array.toList_inj]; exact hargs
    have ht : c.argTypes = #[t, t2] := by rw [← Array.toList_inj]; exact hty
    unfold execOp
    rw [hop]
    simp [resolve, hcal, invoke, builtin, ha, ht, hye, hxe, hr]
  have hb : Below w.heap.size w w' := (Below.refl _ _).grown hgrow (Nat.le_refl _) (fun k hk => by cases hk)
  have hv : ∀ b, vblk v' = some b → w.heap.size ≤ b := fun b hb' => by
    rcases hblk b hb' with q | q
    · cases q
    · exact q
  have hρ : ρ d = none := by
    cases hρ : ρ d with
    | none => rfl
    | some u => obtain ⟨ob', h1, _⟩ := hcr.obj d u hρ; rw [hfr] at h1; cases h1
  rw [Nat.zero_add, List.nil_append] at hown'
  have ho' : OR (Bd (up ρ d v') B0) w0 w' (.row e te.n m el2) v' := ⟨news, ⟨hown', fun b hb => Or.inl (Nat.le_trans hcr.bel.size (hv b hb))⟩, fun p q hp hq => by
    obtain ⟨u, hu1, hu2⟩ := hel2 p q hp hq
    exact ⟨u, hu1, LfR.mv (.of_below hb) (up_new hρ hv) _ hu2⟩⟩
  have hc' : Core (up ρ d v') B0 w0 w' ((d, .row e te.n m el2) :: s.hp) := hcr.new hρ hb hv (fun k ob hk hne => by rw [lk_cons, if_neg (fun e => hne e.symm)]; exact hk) (by rw [lk_cons, if_pos rfl]) ho'
  have hs' : Slots (up ρ d v') (Bd (up ρ d v') B0) w' s.sl a := fun t av ht => let ⟨u, h1, h2⟩ := hs t av ht; ⟨u, h1, h2.new hρ hb hv⟩
  refine wpl_value (gst_ok hg hs) hrun (k B0 w0 _ w' ?_)
  rw [hdst]
  exact ⟨_, hc', (by show (a.tmps.setIfInBounds d v').size = s.n; simpa using hn), hdf, slots_put hs' hn (Nat.le_of_ble_eq_true hd) (AO.av_ok ho' (by simp [up]))⟩

end Go.Proofs.Ytpnoklbijfmoaaa

/-
  A SLICE OF INTEGERS THAT CAME IN, AS THE WALKS READ IT ('Rw').
-/
set_option linter.unusedVariables false
set_option linter.unusedSimpArgs false
namespace Go.Proofs.Ytpnoklbijfmoaaa
open Go.RowKit

/-- A row that came in (in the words of the rows' shells) is a row as the walks read it: kind k, each from 0 to B - 1. -/
theorem rw_in {k : IntKind} {B : Nat} {w : World} {a : Option Addr} {len cap : Nat} {zs : List Int}
    (h : (a = none ∧ len = 0 ∧ cap = 0 ∧ zs = []) ∨ ∃ x, a = some x ∧ len ≤ cap ∧ cap ≤ maxLen ∧ zs.length = cap ∧ (∀ i, i < zs.length → w.cell? (x.add i) = some (.int k (zs.getD i 0))) ∧ ∀ n ∈ zs, (Lit.int k n).wf = true)
    (hk : ∀ z : Int, (Lit.int k z).wf = true → 0 ≤ z ∧ z < (B : Int)) :
    len ≤ 9223372036854775807 ∧ ∃ xs, Rw k B w a len cap xs := by
  rcases h with ⟨rfl, rfl, rfl, rfl⟩ | ⟨x, rfl, hlc, hcm, hz, hcell, hwf⟩
  · exact ⟨by omega, [], Rw.nil k B w⟩
  · have hm : maxLen = 9223372036854775807 := by decide
    refine ⟨by omega, (zs.take len).map Int.toNat, by rw [List.length_map, List.length_take]; omega, hlc, (fun e => nomatch e), ?_, ?_⟩
    · intro n hn
      obtain ⟨z, hz, rfl⟩ := List.mem_map.1 hn
      have := hk z (hwf z (List.mem_of_mem_take hz))
      omega
    · by_cases h0 : len = 0
      · left; subst h0; rfl
      · right
        obtain ⟨b, off, sp⟩ := x
        have hc0 := hcell 0 (by omega)
        obtain rfl : sp = none := by
          cases sp with
          | none => rfl
          | some s =>
            exfalso
            simp only [Addr.add, if_true, World.cell?] at hc0
            split at hc0 <;> simp_all
        refine ⟨b, off, rfl, fun j hj => ?_⟩
        have hj2 : j < len := by simp [ints] at hj; omega
        have hcj := hcell j (by omega)
        have hzj : zs.getD j 0 = zs[j]'(by omega) := by rw [List.getD_eq_getElem?_getD, List.getElem?_eq_getElem (by omega)]; rfl
        have e1 : (⟨b, off, none⟩ : Addr).add j = ⟨b, off + j, none⟩ := by
          unfold Addr.add
          split
          · next h => subst h; rfl
          · rfl
        rw [e1, hzj] at hcj
        rw [hcj]
        have hw := hk _ (hwf _ (List.getElem_mem (l := zs) (n := j) (by omega)))
        simp only [ints, List.map_map, List.getElem_map, List.getElem_take, Function.comp]
        rw [Int.toNat_of_nonneg hw.1]

theorem wf_u32 (z : Int) (h : (Lit.int .u32 z).wf = true) : 0 ≤ z ∧ z < (B32 : Int) := by
  simp only [Lit.wf, Bool.and_eq_true, decide_eq_true_eq] at h
  have h1 : IntKind.u32.min = 0 := by decide
  have h2 : IntKind.u32.max = 4294967295 := by decide
  have h3 : (B32 : Int) = 4294967296 := by decide
  omega

theorem wf_int {z : Int} (h : (Lit.int .i64 z).wf = true) : -9223372036854775808 ≤ z ∧ z ≤ 9223372036854775807 := by
  simp only [Lit.wf, Bool.and_eq_true, decide_eq_true_eq] at h
  have h1 : IntKind.i64.min = -9223372036854775808 := by decide
  have h2 : IntKind.i64.max = 9223372036854775807 := by decide
  omega

end Go.Proofs.Ytpnoklbijfmoaaa

/-
  WHAT COMES IN: rows of limbs, rows of rows, as the walks read them.
-/
set_option linter.unusedVariables false
set_option linter.unusedSimpArgs false
namespace Go.Proofs.Ytpnoklbijfmoaaa
open Go.RowKit Go.ChangeShapes Go.WideShapes

section
variable {H : Type} {enc : TypeId × Value → H} {P : Program} {w : World}

/-- A row of limbs that came in. -/
theorem in_u32s {t e : TypeId} {fuel : Nat} {cs : List Value} {x : DataW H × List MemPlace} (ht : P.underlying t = some (.slice e)) (he : P.underlying e = some (.int .u32)) (hc : P.cellsOf e = 1)
    (h : DataW.trod enc P w 0 (fun _ => true) true fuel t cs = some x) :
    ∃ a len cap, cs = [.slice a len cap] ∧ len ≤ 9223372036854775807 ∧ ∃ xs, Rw .u32 B32 w a len cap xs := by
  rcases open_ints ht he hc h with ⟨rfl, _⟩ | ⟨a, l, c, zs, rfl, _, hl, hm, hz, _, hcell, hwz⟩
  · exact ⟨none, 0, 0, rfl, by omega, [], Rw.nil _ _ _⟩
  · exact ⟨some a, l, c, rfl, rw_in (.inr ⟨_, rfl, hl, hm, by simpa using hz, hcell, hwz⟩) wf_u32⟩

/-- A row of rows of limbs that came in: each element is a row of limbs. -/
def InRows (w : World) (ao : Option Addr) (n : Nat) : Prop :=
  ∀ j, j < n → ∃ b off a k d xs, ao = some ⟨b, off, none⟩ ∧ w.cell? ⟨b, off + j, none⟩ = some (.slice a k d) ∧ k ≤ 9223372036854775807 ∧ Rw .u32 B32 w a k d xs

theorem add_plain {b off j : Nat} : (⟨b, off, none⟩ : Addr).add j = ⟨b, off + j, none⟩ := by
  unfold Addr.add
  split
  · next h => subst h; rfl
  · rfl

/-- The address of a cell that can be read has no spot. -/
theorem plain_of_cell {a : Addr} {v : Value} (h : w.cell? (a.add 0) = some v) : ∃ b off, a = ⟨b, off, none⟩ := by
  obtain ⟨b, off, sp⟩ := a
  cases sp with
  | none => exact ⟨b, off, rfl⟩
  | some s =>
    exfalso
    simp only [Addr.add, if_true, World.cell?] at h
    split at h <;> simp_all

theorem in_rows {t e e' : TypeId} {fuel : Nat} {cs : List Value} {x : DataW H × List MemPlace} (ht : P.underlying t = some (.slice e)) (he : P.underlying e = some (.slice e')) (he' : P.underlying e' = some (.int .u32)) (hc : P.cellsOf e = 1) (hc' : P.cellsOf e' = 1)
    (h : DataW.trod enc P w 0 (fun _ => true) true fuel t cs = some x) :
    ∃ a len cap, cs = [.slice a len cap] ∧ len ≤ 9223372036854775807 ∧ len ≤ cap ∧ InRows w a len := by
  rcases Go.Deep.open_slice1 ht hc h with ⟨rfl, _⟩ | ⟨a, len, cap, m, n, V, D, Pl, rfl, _, hl, hm, hmm, _, hx⟩
  · exact ⟨none, 0, 0, rfl, by omega, Nat.le_refl _, fun j hj => absurd hj (by omega)⟩
  · have hmax : maxLen = 9223372036854775807 := by decide
    refine ⟨some a, len, cap, rfl, by omega, hl, fun j hj => ?_⟩
    have hm2 : m = cap := by simpa using hmm
    obtain ⟨b, off, rfl⟩ := plain_of_cell (hx 0 (by omega)).1
    obtain ⟨h1, h2⟩ := hx j (by omega)
    obtain ⟨a', k, d, he1, hk, xs, hr⟩ := in_u32s he he' hc' h2
    rw [add_plain] at h1
    exact ⟨b, off, a', k, d, xs, rfl, by rw [h1]; exact congrArg some (List.cons.inj he1).1, hk, hr⟩

end
end Go.Proofs.Ytpnoklbijfmoaaa

/-
  WHAT COMES IN, in the abstract machine's words; a law's answer as the rows ask for it. No condition; nothing of the program.
-/
set_option linter.unusedVariables false
set_option linter.unusedSimpArgs false
namespace Go.Proofs.Ytpnoklbijfmoaaa
open Go.RowKit Go.ChangeShapes Go.WideShapes

def nb : BS := fun _ => False
abbrev MX : Nat := 9223372036854775807
theorem am_law {P : Program} {f : FuncId} {args : List DV} (h : ACall P f args (.d (.one (.v (.bool true))))) {w : World} {vs : List Value} (hvs : DsR nb w args vs) : Calls P f vs.toArray w fun e w' => e = .returned (.bool true) ∧ Below w.heap.size w w' :=
  (h.go nb w vs (fun _ h => h.elim) hvs).mono fun e w' ⟨v, he, hb, hv⟩ => ⟨by have h1 : v = .bool true := (show LfR nb w' (.v (.bool true)) v from hv).1; rw [he, h1], hb⟩

section
variable {H : Type} {enc : TypeId × Value → H} {P : Program} {w : World}
theorem am_lim {t e : TypeId} {fuel : Nat} {cs : List Value} {x : DataW H × List MemPlace} (ht : P.underlying t = some (.slice e)) (he : P.underlying e = some (.int .u32)) (hc : P.cellsOf e = 1)
    (h : DataW.trod enc P w 0 (fun _ => true) true fuel t cs = some x) : ∃ v xs, cs = [v] ∧ LfR nb w (lr MX xs) v := by
  obtain ⟨a, len, cap, e1, hl, xs, hr⟩ := in_u32s ht he hc h
  exact ⟨_, xs, e1, lr_R hr hl (fun _ _ _ h => h.elim)⟩
theorem am_int {r : Reach} {b0 : Nat} {t e : TypeId} {f0 f1 : Field} {v : Value} {d : DataW H} {p : List MemPlace} (hs : P.underlying t = some (.struct #[f0, f1])) (hone : Deep.oneCellFields P #[f0, f1] = true) (hC : P.cellsOf t = 2)
    (h0 : P.underlying f0.type = some .bool) (h1 : P.underlying f1.type = some (.slice e)) (he : P.underlying e = some (.int .u32)) (hc : P.cellsOf e = 1)
    (hv : Value.okWide P w r b0 t v) (h : DataW.Trod enc P w 0 (fun _ => true) true t v d p) :
    ∃ s xs, DR nb w (.agg [.v (.bool s), lr MX xs]) v := by
  obtain ⟨v0, v1, y0, y1, m, rfl, _, _, k0, k1⟩ := Joins.open_agg2 hs hone hC hv h
  obtain ⟨v1', xs, e1, hr⟩ := am_lim h1 he hc k1
  obtain ⟨s, e0⟩ : ∃ s, v0 = .bool s := by
    obtain ⟨b', hb, _⟩ := DataW.trod_bool h0 k0
    exact ⟨b', (List.cons.inj hb).1⟩
  subst e0
  obtain rfl := (List.cons.inj e1).1
  exact ⟨s, xs, _, rfl, ⟨rfl, rfl⟩, hr, trivial⟩
theorem am_pol {t e u : TypeId} {f0 f1 : Field} {fuel : Nat} {cs : List Value} {x : DataW H × List MemPlace} (ht : P.underlying t = some (.slice e)) (hs : P.underlying e = some (.struct #[f0, f1])) (hC : P.cellsOf e = 2)
    (ho : f0.offset = 0 ∧ f1.offset = 1 ∧ P.cellsOf f0.type = 1 ∧ P.cellsOf f1.type = 1)
    (h0 : P.underlying f0.type = some .bool) (h1 : P.underlying f1.type = some (.slice u)) (hu : P.underlying u = some (.int .u32)) (hc : P.cellsOf u = 1)
    (h : DataW.trod enc P w 0 (fun _ => true) true fuel t cs = some x) : ∃ v n f, cs = [v] ∧ LfR nb w (arow MX n f) v := by
  obtain ⟨o0, o1, k0, k1⟩ := ho
  rcases Go.Deep.open_slice ht h with ⟨hcs, _⟩ | ⟨a, len, cap, m, n, D, Pl, hcs, _, hl, hm, hmm, _, hx⟩
  · exact ⟨_, 0, fun _ => (false, []), hcs, none, 0, rfl, Nat.le_refl _, fun _ => rfl, fun i hi => absurd hi (Nat.not_lt_zero _)⟩
  · have hmax : maxLen = 9223372036854775807 := by decide
    have hm2 : m = cap := by simpa using hmm
    have key : ∀ j, j < len → ∃ F : Bool × List Nat, ∃ b off v1, a = ⟨b, off, none⟩ ∧ w.cell? ⟨b, off + j * 2, none⟩ = some (.bool F.1) ∧ w.cell? ⟨b, off + j * 2 + 1, none⟩ = some v1 ∧ LfR nb w (lr MX F.2) v1 := by
      intro j hj
      have hfirst : ∃ v0, w.cell? (a.add 0) = some v0 := by
        obtain ⟨cs, h2, _⟩ := hx 0 (by omega)
        rw [hC] at h2
        obtain ⟨_, hlen, hcell⟩ := World.cells?_some h2
        have h3 := hcell 0 (by omega)
        rw [Nat.zero_mul, show (a.add 0).add 0 = a.add 0 by simp [Addr.add]] at h3
        exact ⟨_, h3.trans (List.getElem?_eq_getElem (by omega))⟩
      obtain ⟨v0, hv0⟩ := hfirst
      obtain ⟨b, off, rfl⟩ := plain_of_cell hv0
      obtain ⟨cs, h2, h3⟩ := hx j (by omega)
      rw [hC] at h2
      obtain ⟨_, hlen, hcell⟩ := World.cells?_some h2
      obtain ⟨y0, y1, q, _, _, t0, t1⟩ := trod_struct2 hs h3
      match cs, hlen with
      | [c0, c1], _ =>
        rw [o0, k0] at t0
        rw [o1, k1] at t1
        obtain ⟨s, hb, _⟩ := DataW.trod_bool h0 t0
        obtain ⟨v1, xs, e1, hr⟩ := am_lim h1 hu hc t1
        obtain rfl : c0 = .bool s := (List.cons.inj hb).1
        obtain rfl : c1 = v1 := (List.cons.inj e1).1
        have g0 := hcell 0 (by simp)
        have g1 := hcell 1 (by simp)
        rw [add_plain, add_plain] at g0 g1
        exact ⟨(s, xs), b, off, c1, rfl, g0, g1, hr⟩
    refine ⟨_, len, fun j => if h : j < len then (key j h).choose else (false, []), hcs, some a, cap, rfl, hl, (fun e => nomatch e), fun j hj => ?_⟩
    obtain ⟨b, off, v1, rfl, h2, h3, h4⟩ := (key j hj).choose_spec
    refine ⟨b, off, rfl, fun h => h.elim, World.block_lt_of_cell? w _ h2, fun q hq => ?_⟩
    match q, hq with
    | 0, _ =>
      refine ⟨_, h2, ?_⟩
      show LfR nb w (.v (.bool (if h : j < len then (key j h).choose else (false, [])).1)) _
      rw [dif_pos hj]; exact ⟨rfl, rfl⟩
    | 1, _ =>
      refine ⟨_, h3, ?_⟩
      show LfR nb w (lr MX (if h : j < len then (key j h).choose else (false, [])).2) _
      rw [dif_pos hj]; exact h4
theorem am_pols {t s e u : TypeId} {f0 f1 : Field} {fuel : Nat} {cs : List Value} {x : DataW H × List MemPlace} (hts : P.underlying t = some (.slice s)) (hcs1 : P.cellsOf s = 1) (ht : P.underlying s = some (.slice e)) (hs : P.underlying e = some (.struct #[f0, f1])) (hC : P.cellsOf e = 2)
    (ho : f0.offset = 0 ∧ f1.offset = 1 ∧ P.cellsOf f0.type = 1 ∧ P.cellsOf f1.type = 1)
    (h0 : P.underlying f0.type = some .bool) (h1 : P.underlying f1.type = some (.slice u)) (hu : P.underlying u = some (.int .u32)) (hc : P.cellsOf u = 1)
    (h : DataW.trod enc P w 0 (fun _ => true) true fuel t cs = some x) : ∃ v n ns fs, cs = [v] ∧ LfR nb w (prows MX n ns fs) v := by
  rcases Go.Deep.open_slice1 hts hcs1 h with ⟨rfl, _⟩ | ⟨a, len, cap, m, n, V, D, Pl, rfl, _, hl, hm, hmm, _, hx⟩
  · exact ⟨_, 0, fun _ => 0, fun _ _ => (false, []), rfl, none, 0, rfl, Nat.le_refl _, fun _ => rfl, fun i hi => absurd hi (Nat.not_lt_zero _)⟩
  · have hm2 : m = cap := by simpa using hmm
    have key : ∀ j, j < len → ∃ F : Nat × (Nat → Bool × List Nat), ∃ b off v1, a = ⟨b, off, none⟩ ∧ w.cell? ⟨b, off + j, none⟩ = some v1 ∧ LfR nb w (arow MX F.1 F.2) v1 := by
      intro j hj
      obtain ⟨b, off, rfl⟩ := plain_of_cell (hx 0 (by omega)).1
      obtain ⟨h1', h2⟩ := hx j (by omega)
      obtain ⟨v, n', f, e1, hr⟩ := am_pol ht hs hC ho h0 h1 hu hc h2
      rw [add_plain] at h1'
      obtain e2 := (List.cons.inj e1).1
      exact ⟨(n', f), b, off, v, rfl, by rw [h1', e2], hr⟩
    refine ⟨_, len, fun j => if h : j < len then (key j h).choose.1 else 0, fun j => if h : j < len then (key j h).choose.2 else fun _ => (false, []), rfl, some a, cap, rfl, hl, (fun e => nomatch e), fun j hj => ?_⟩
    obtain ⟨b, off, v1, rfl, h2, h4⟩ := (key j hj).choose_spec
    refine ⟨b, off, rfl, fun h => h.elim, World.block_lt_of_cell? w _ h2, fun q hq => ?_⟩
    obtain rfl : q = 0 := by omega
    refine ⟨_, by rw [Nat.mul_one, Nat.add_zero]; exact h2, ?_⟩
    show LfR nb w (arow MX (if h : j < len then (key j h).choose.1 else 0) (if h : j < len then (key j h).choose.2 else fun _ => (false, []))) _
    rw [dif_pos hj, dif_pos hj]; exact h4
theorem am_i64s {t e : TypeId} {fuel : Nat} {cs : List Value} {x : DataW H × List MemPlace} (ht : P.underlying t = some (.slice e)) (he : P.underlying e = some (.int .i64)) (hc : P.cellsOf e = 1)
    (h : DataW.trod enc P w 0 (fun _ => true) true fuel t cs = some x) : ∃ v n c, cs = [v] ∧ LfR nb w (irow n c) v ∧ ∀ i, i < n → -9223372036854775808 ≤ c i ∧ c i ≤ 9223372036854775807 := by
  rcases open_ints ht he hc h with ⟨rfl, _⟩ | ⟨a, l, c, zs, rfl, _, hl, hm, hz, _, hcell, hwz⟩
  · exact ⟨_, 0, fun _ => 0, rfl, ⟨none, 0, rfl, Nat.le_refl _, fun _ => rfl, fun i hi => absurd hi (Nat.not_lt_zero _)⟩, fun i hi => absurd hi (Nat.not_lt_zero _)⟩
  · have hz' : zs.length = c := by simpa using hz
    refine ⟨_, l, fun i => zs.getD i 0, rfl, ⟨some a, c, rfl, hl, (fun e => nomatch e), fun i hi => ?_⟩, fun i hi => ?_⟩
    · have h0 := hcell 0 (by omega)
      obtain ⟨b, off, rfl⟩ := plain_of_cell h0
      have h1 := hcell i (by omega)
      rw [add_plain] at h1
      refine ⟨b, off, rfl, fun h => h.elim, World.block_lt_of_cell? w _ h1, fun q hq => ?_⟩
      obtain rfl : q = 0 := by omega
      exact ⟨_, by rw [Nat.mul_one, Nat.add_zero]; exact h1, rfl, rfl⟩
    · have hi' : i < zs.length := by omega
      show _ ≤ zs.getD i 0 ∧ zs.getD i 0 ≤ _
      rw [List.getD_eq_getElem?_getD, List.getElem?_eq_getElem hi']
      exact wf_int (hwz _ (List.getElem_mem hi'))
theorem slice_cells {a : Option Addr} {n c : Nat} : (Value.slice a n c).cells.toList = [.slice a n c] := by simp [Value.cells]
theorem am_polT {r : Reach} {b0 : Nat} {d : DataW H} {p : List MemPlace} {v : Value} {t e u : TypeId} {f0 f1 : Field} (ht : P.underlying t = some (.slice e)) (hs : P.underlying e = some (.struct #[f0, f1])) (hC : P.cellsOf e = 2)
    (ho : f0.offset = 0 ∧ f1.offset = 1 ∧ P.cellsOf f0.type = 1 ∧ P.cellsOf f1.type = 1)
    (h0 : P.underlying f0.type = some .bool) (h1 : P.underlying f1.type = some (.slice u)) (hu : P.underlying u = some (.int .u32)) (hc : P.cellsOf u = 1)
    (hv : Value.okWide P w r b0 t v) (h : DataW.Trod enc P w 0 (fun _ => true) true t v d p) : ∃ n f, LfR nb w (arow MX n f) v := by
  obtain ⟨a, len, cap, rfl⟩ := okWide_slice ht hv
  obtain ⟨fuel, hf⟩ := h
  rw [slice_cells] at hf
  obtain ⟨v', n, f, e1, h2⟩ := am_pol ht hs hC ho h0 h1 hu hc hf
  obtain rfl := (List.cons.inj e1).1
  exact ⟨n, f, h2⟩
theorem am_polsT {r : Reach} {b0 : Nat} {d : DataW H} {p : List MemPlace} {v : Value} {t s e u : TypeId} {f0 f1 : Field} (hts : P.underlying t = some (.slice s)) (hcs1 : P.cellsOf s = 1) (ht : P.underlying s = some (.slice e)) (hs : P.underlying e = some (.struct #[f0, f1])) (hC : P.cellsOf e = 2)
    (ho : f0.offset = 0 ∧ f1.offset = 1 ∧ P.cellsOf f0.type = 1 ∧ P.cellsOf f1.type = 1)
    (h0 : P.underlying f0.type = some .bool) (h1 : P.underlying f1.type = some (.slice u)) (hu : P.underlying u = some (.int .u32)) (hc : P.cellsOf u = 1)
    (hv : Value.okWide P w r b0 t v) (h : DataW.Trod enc P w 0 (fun _ => true) true t v d p) : ∃ n ns fs, LfR nb w (prows MX n ns fs) v := by
  obtain ⟨a, len, cap, rfl⟩ := okWide_slice hts hv
  obtain ⟨fuel, hf⟩ := h
  rw [slice_cells] at hf
  obtain ⟨v', n, ns, fs, e1, h2⟩ := am_pols hts hcs1 ht hs hC ho h0 h1 hu hc hf
  obtain rfl := (List.cons.inj e1).1
  exact ⟨n, ns, fs, h2⟩
theorem am_i64sT {r : Reach} {b0 : Nat} {d : DataW H} {p : List MemPlace} {v : Value} {t e : TypeId} (ht : P.underlying t = some (.slice e)) (he : P.underlying e = some (.int .i64)) (hc : P.cellsOf e = 1)
    (hv : Value.okWide P w r b0 t v) (h : DataW.Trod enc P w 0 (fun _ => true) true t v d p) : ∃ n c, LfR nb w (irow n c) v ∧ ∀ i, i < n → -9223372036854775808 ≤ c i ∧ c i ≤ 9223372036854775807 := by
  obtain ⟨a, len, cap, rfl⟩ := okWide_slice ht hv
  obtain ⟨fuel, hf⟩ := h
  rw [slice_cells] at hf
  obtain ⟨v', n, c, e1, h2⟩ := am_i64s ht he hc hf
  obtain rfl := (List.cons.inj e1).1
  exact ⟨n, c, h2⟩
end
end Go.Proofs.Ytpnoklbijfmoaaa

/-
  WHAT COMES IN (2): rationals, rows of rationals. No condition; nothing of the program.
-/
set_option linter.unusedVariables false
set_option linter.unusedSimpArgs false
namespace Go.Proofs.Ytpnoklbijfmoaaa
open Go.RowKit Go.ChangeShapes Go.WideShapes

section
variable {H : Type} {enc : TypeId × Value → H} {P : Program} {w : World}
theorem am_intc {t e : TypeId} {f0 f1 : Field} {fuel : Nat} {cs : List Value} {x : DataW H × List MemPlace} (hs : P.underlying t = some (.struct #[f0, f1])) (ho : f0.offset = 0 ∧ f1.offset = 1 ∧ P.cellsOf f0.type = 1 ∧ P.cellsOf f1.type = 1)
    (h0 : P.underlying f0.type = some .bool) (h1 : P.underlying f1.type = some (.slice e)) (he : P.underlying e = some (.int .u32)) (hc : P.cellsOf e = 1) (hl : cs.length = 2)
    (h : DataW.trod enc P w 0 (fun _ => true) true fuel t cs = some x) : ∃ s xs v1, cs = [.bool s, v1] ∧ LfR nb w (lr MX xs) v1 := by
  obtain ⟨y0, y1, q, _, _, t0, t1⟩ := trod_struct2 hs h
  obtain ⟨o0, o1, k0, k1⟩ := ho
  match cs, hl with
  | [c0, c1], _ =>
    rw [o0, k0] at t0
    rw [o1, k1] at t1
    obtain ⟨s, hb, _⟩ := DataW.trod_bool h0 t0
    obtain ⟨v1, xs, e1, hr⟩ := am_lim h1 he hc t1
    obtain rfl : c0 = .bool s := (List.cons.inj hb).1
    obtain rfl : c1 = v1 := (List.cons.inj e1).1
    exact ⟨s, xs, _, rfl, hr⟩
/-- A rational in any form. -/
def tan (K : Nat) (s : Bool) (xs : List Nat) (t : Bool) (ys : List Nat) : List Lf := [.v (.bool s), lr K xs] ++ [.v (.bool t), lr K ys]
theorem am_ratc {t u e : TypeId} {g0 g1 f0 f1 : Field} {fuel : Nat} {cs : List Value} {x : DataW H × List MemPlace} (hr : P.underlying t = some (.struct #[g0, g1])) (hg : g0.offset = 0 ∧ g1.offset = 2 ∧ P.cellsOf g0.type = 2 ∧ P.cellsOf g1.type = 2)
    (u0 : g0.type = u) (u1 : g1.type = u) (hs : P.underlying u = some (.struct #[f0, f1])) (ho : f0.offset = 0 ∧ f1.offset = 1 ∧ P.cellsOf f0.type = 1 ∧ P.cellsOf f1.type = 1)
    (h0 : P.underlying f0.type = some .bool) (h1 : P.underlying f1.type = some (.slice e)) (he : P.underlying e = some (.int .u32)) (hc : P.cellsOf e = 1) (hl : cs.length = 4)
    (h : DataW.trod enc P w 0 (fun _ => true) true fuel t cs = some x) : ∃ s xs s' ys, LsR nb w (tan MX s xs s' ys) cs := by
  obtain ⟨y0, y1, q, _, _, t0, t1⟩ := trod_struct2 hr h
  obtain ⟨o0, o1, k0, k1⟩ := hg
  match cs, hl with
  | [c0, c1, c2, c3], _ =>
    rw [o0, k0, u0] at t0
    rw [o1, k1, u1] at t1
    obtain ⟨s, xs, v1, e1, r1⟩ := am_intc hs ho h0 h1 he hc rfl t0
    obtain ⟨s', ys, v2, e2, r2⟩ := am_intc hs ho h0 h1 he hc rfl t1
    simp at e1 e2
    obtain ⟨rfl, rfl⟩ := e1
    obtain ⟨rfl, rfl⟩ := e2
    exact ⟨s, xs, s', ys, ⟨rfl, rfl⟩, r1, ⟨rfl, rfl⟩, r2, trivial⟩
theorem am_rat {r : Reach} {b0 : Nat} {t u e : TypeId} {g0 g1 f0 f1 : Field} {v : Value} {d : DataW H} {p : List MemPlace} (hr : P.underlying t = some (.struct #[g0, g1])) (hC : P.cellsOf t = 4) (hg : g0.offset = 0 ∧ g1.offset = 2 ∧ P.cellsOf g0.type = 2 ∧ P.cellsOf g1.type = 2)
    (u0 : g0.type = u) (u1 : g1.type = u) (hs : P.underlying u = some (.struct #[f0, f1])) (ho : f0.offset = 0 ∧ f1.offset = 1 ∧ P.cellsOf f0.type = 1 ∧ P.cellsOf f1.type = 1)
    (h0 : P.underlying f0.type = some .bool) (h1 : P.underlying f1.type = some (.slice e)) (he : P.underlying e = some (.int .u32)) (hc : P.cellsOf e = 1)
    (hv : Value.okWide P w r b0 t v) (h : DataW.Trod enc P w 0 (fun _ => true) true t v d p) : ∃ s xs s' ys, DR nb w (.agg (tan MX s xs s' ys)) v := by
  obtain ⟨cs, rfl, hsz⟩ := okWide_struct hr hv
  obtain ⟨fuel, hf⟩ := h
  have hcs : (Value.agg cs).cells.toList = cs.toList := by simp [Value.cells]
  rw [hcs] at hf
  obtain ⟨s, xs, s', ys, hx⟩ := am_ratc hr hg u0 u1 hs ho h0 h1 he hc (by simpa using hsz.trans hC) hf
  exact ⟨s, xs, s', ys, cs.toList, by simp, hx⟩
/-- A row of rationals in any form. -/
abbrev tael (K : Nat) (f : Nat → (Bool × List Nat) × (Bool × List Nat)) : Nat → Nat → Lf := fun i j => ((tan K (f i).1.1 (f i).1.2 (f i).2.1 (f i).2.2)[j]?).getD (.v undef)
def trow (K n : Nat) (f : Nat → (Bool × List Nat) × (Bool × List Nat)) : Lf := .row 4 n (tael K f)
theorem am_rats {tt t u e : TypeId} {g0 g1 f0 f1 : Field} {fuel : Nat} {cs : List Value} {x : DataW H × List MemPlace} (ht : P.underlying tt = some (.slice t)) (hr : P.underlying t = some (.struct #[g0, g1])) (hC : P.cellsOf t = 4) (hg : g0.offset = 0 ∧ g1.offset = 2 ∧ P.cellsOf g0.type = 2 ∧ P.cellsOf g1.type = 2)
    (u0 : g0.type = u) (u1 : g1.type = u) (hs : P.underlying u = some (.struct #[f0, f1])) (ho : f0.offset = 0 ∧ f1.offset = 1 ∧ P.cellsOf f0.type = 1 ∧ P.cellsOf f1.type = 1)
    (h0 : P.underlying f0.type = some .bool) (h1 : P.underlying f1.type = some (.slice e)) (he : P.underlying e = some (.int .u32)) (hc : P.cellsOf e = 1)
    (h : DataW.trod enc P w 0 (fun _ => true) true fuel tt cs = some x) : ∃ v n f, cs = [v] ∧ LfR nb w (trow MX n f) v := by
  rcases Go.Deep.open_slice ht h with ⟨hcs, _⟩ | ⟨a, len, cap, m, n, D, Pl, hcs, _, hl, hm, hmm, _, hx⟩
  · exact ⟨_, 0, fun _ => ((false, []), (false, [])), hcs, none, 0, rfl, Nat.le_refl _, fun _ => rfl, fun i hi => absurd hi (Nat.not_lt_zero _)⟩
  · have hm2 : m = cap := by simpa using hmm
    have key : ∀ j, j < len → ∃ F : (Bool × List Nat) × (Bool × List Nat), ∃ b off, a = ⟨b, off, none⟩ ∧ b < w.heap.size ∧ ∀ q, q < 4 → ∃ c, w.cell? ⟨b, off + j * 4 + q, none⟩ = some c ∧ LfR nb w (((tan MX F.1.1 F.1.2 F.2.1 F.2.2)[q]?).getD (.v undef)) c := by
      intro j hj
      have hfirst : ∃ v0, w.cell? (a.add 0) = some v0 := by
        obtain ⟨cs, h2, _⟩ := hx 0 (by omega)
        rw [hC] at h2
        obtain ⟨_, hlen, hcell⟩ := World.cells?_some h2
        have h3 := hcell 0 (by omega)
        rw [Nat.zero_mul, show (a.add 0).add 0 = a.add 0 by simp [Addr.add]] at h3
        exact ⟨_, h3.trans (List.getElem?_eq_getElem (by omega))⟩
      obtain ⟨v0, hv0⟩ := hfirst
      obtain ⟨b, off, rfl⟩ := plain_of_cell hv0
      obtain ⟨cs, h2, h3⟩ := hx j (by omega)
      rw [hC] at h2
      obtain ⟨_, hlen, hcell⟩ := World.cells?_some h2
      obtain ⟨s, xs, s', ys, hls⟩ := am_ratc hr hg u0 u1 hs ho h0 h1 he hc hlen h3
      have hlt : b < w.heap.size := by
        have h4 := hcell 0 (by omega)
        rw [add_plain, add_plain] at h4
        exact World.block_lt_of_cell? w _ (h4.trans (List.getElem?_eq_getElem (by omega)))
      refine ⟨((s, xs), (s', ys)), b, off, rfl, hlt, fun q hq => ?_⟩
      have h4 := hcell q (by omega)
      rw [add_plain, add_plain] at h4
      obtain ⟨c, hc1, hc2⟩ := hls.get (j := q) (l := ((tan MX s xs s' ys)[q]?).getD (.v undef)) (by
        have hlen4 : (tan MX s xs s' ys).length = 4 := rfl
        rw [List.getElem?_eq_getElem (by omega)]; rfl)
      exact ⟨c, h4.trans hc1, hc2⟩
    refine ⟨_, len, fun j => if h : j < len then (key j h).choose else ((false, []), (false, [])), hcs, some a, cap, rfl, hl, (fun e => nomatch e), fun j hj => ?_⟩
    obtain ⟨b, off, rfl, h2, h3⟩ := (key j hj).choose_spec
    refine ⟨b, off, rfl, fun h => h.elim, h2, fun q hq => ?_⟩
    obtain ⟨c, h4, h5⟩ := h3 q hq
    refine ⟨c, h4, ?_⟩
    simp only [tael, dif_pos hj]
    exact h5
theorem am_ratsT {r : Reach} {b0 : Nat} {d : DataW H} {p : List MemPlace} {v : Value} {tt t u e : TypeId} {g0 g1 f0 f1 : Field} (ht : P.underlying tt = some (.slice t)) (hr : P.underlying t = some (.struct #[g0, g1])) (hC : P.cellsOf t = 4) (hg : g0.offset = 0 ∧ g1.offset = 2 ∧ P.cellsOf g0.type = 2 ∧ P.cellsOf g1.type = 2)
    (u0 : g0.type = u) (u1 : g1.type = u) (hs : P.underlying u = some (.struct #[f0, f1])) (ho : f0.offset = 0 ∧ f1.offset = 1 ∧ P.cellsOf f0.type = 1 ∧ P.cellsOf f1.type = 1)
    (h0 : P.underlying f0.type = some .bool) (h1 : P.underlying f1.type = some (.slice e)) (he : P.underlying e = some (.int .u32)) (hc : P.cellsOf e = 1)
    (hv : Value.okWide P w r b0 tt v) (h : DataW.Trod enc P w 0 (fun _ => true) true tt v d p) : ∃ n f, LfR nb w (trow MX n f) v := by
  obtain ⟨a, len, cap, rfl⟩ := okWide_slice ht hv
  obtain ⟨fuel, hf⟩ := h
  rw [slice_cells] at hf
  obtain ⟨v', n, f, e1, h2⟩ := am_rats ht hr hC hg u0 u1 hs ho h0 h1 he hc hf
  obtain rfl := (List.cons.inj e1).1
  exact ⟨n, f, h2⟩
end
end Go.Proofs.Ytpnoklbijfmoaaa

/-
  RATIONALS, cut, by the machine.
-/
set_option linter.unusedVariables false
set_option linter.unusedSimpArgs false
namespace Go.Proofs.Ytpnoklbijfmoaaa
open Go.RowKit

end Go.Proofs.Ytpnoklbijfmoaaa


/-
  RATIONALS of the program, by the machine (3).
-/
set_option linter.unusedVariables false
set_option linter.unusedSimpArgs false
namespace Go.Proofs.Ytpnoklbijfmoaaa
open Go.RowKit

def fq (f : Nat → (Bool × List Nat) × (Bool × List Nat)) (i : Nat) : Rat := mkR (zv (f i).1.1 (val (f i).1.2)) (zv (f i).2.1 (val (f i).2.2))
end Go.Proofs.Ytpnoklbijfmoaaa

/-
  CURVES, by the machine (1): over, norm, Make, Of, Deg; comparisons of orrerykeep.
-/
set_option linter.unusedVariables false
set_option linter.unusedSimpArgs false
namespace Go.Proofs.Ytpnoklbijfmoaaa
open Go.RowKit

set_option maxRecDepth 100000 in
set_option maxHeartbeats 4000000 in
theorem aCOver {a : Lf} {b : List Lf} {K L M n : Nat} {c : Nat → Int} {y : Int} (ha : IsP a K n c) (hb : IsZ b L y) (hy : y ≠ 0) (hd : ∀ i, i < n → y ∣ c i) (hn : n ≤ 1000) (hM : max K 1 + 1 ≤ M := by decide) (hMM : M ≤ 100000000 := by decide) (hL : L ≤ 100000000 := by decide) : ACall Try.prog 29 [.one a, .agg b] (.d (.one (prow M (dg (fdv c y) n) (fdv c y)))) := by
  obtain ⟨⟨fa, ha, ea⟩, za⟩ := ha
  obtain ⟨s, xs, hb, hy0⟩ := hb
  refine ACall.le (dl (DV.l ha) (dl (DV.z hb) dl0)) AV.le.rfl ?_
  refine acallN hTT 30 [.tmp 4] Try.func29 rfl rfl rfl rfl rfl ?_
  refine cSeq ?_
  refine cReg ?_
  refine mN hTT (.box 28 ([.v (.bool s), lr L xs])) rfl rfl rfl ?_
  refine mV hTT _ rfl ?_
  refine mNil ?_
  refine tN ?_
  refine cSeq ?_
  refine cReg ?_
  refine mV hTT _ rfl ?_
  refine mV hTT (.d (.one (.v (.int .i64 (n : Int))))) rfl ?_
  refine mN hTT (.row 28 2 n (fun _ j => .v ((([Value.bool false, Value.slice none 0 0] : List Value)[j]?).getD undef))) (mkO (zl := (n : Int)) (zc := (n : Int)) (bts := 32) rfl rfl rfl rfl rfl (by omega) (by omega) rfl rfl rfl (by omega) (by omega) rfl) rfl rfl ?_
  refine mV hTT _ rfl ?_
  refine mNil ?_
  refine tN ?_
  refine cSeq ?_
  refine cSeq ?_
  refine cReg ?_
  refine mV hTT _ rfl ?_
  refine mV hTT (.d (.one (.v (.int .i64 (n : Int))))) rfl ?_
  refine mV hTT _ rfl ?_
  refine mNil ?_
  refine tN ?_
  refine cBlock ?_
  refine cLoop (ι := Nat) (fun (i : Nat) => ⟨30, [(3, .ptr 3 0), (11, .d (.one (.row 2 n (ael K fa)))), (12, .d (.one (.v (.int .i64 (n : Int))))), (13, .d (.one (.v (.int .i64 ((i : Nat) : Int))))), (5, .own 10)], [(3, .box 28 ([.v (.bool s), lr L xs])), (10, .row 28 2 n (zel M (upd (fdv c y) i)))]⟩) (fun (i : Nat) => i ≤ n) (fun (i : Nat) => n - i) 0 (Nat.zero_le _) (wk (sl := [(3, .ptr 3 0), (11, .d (.one (.row 2 n (ael K fa)))), (12, .d (.one (.v (.int .i64 (n : Int))))), (13, .d (.one (.v (.int .i64 ((0 : Nat) : Int))))), (5, .own 10)]) (hp := [(3, .box 28 ([.v (.bool s), lr L xs])), (10, .row 28 2 n (zel M (upd (fdv c y) 0)))]) rfl ⟨hs rfl, hs rfl, hs rfl, hs rfl, hs rfl, trivial⟩ ⟨ho rfl, ho' rfl (leo_zero (fun i _ => if_neg (Nat.not_lt_zero _))), trivial⟩ rfl) ?_
  rintro i hI
  have hi : i ≤ n := hI
  show AW Try.prog _ _ ⟨30, [(3, .ptr 3 0), (11, .d (.one (.row 2 n (ael K fa)))), (12, .d (.one (.v (.int .i64 (n : Int))))), (13, .d (.one (.v (.int .i64 ((i : Nat) : Int))))), (5, .own 10)], [(3, .box 28 ([.v (.bool s), lr L xs])), (10, .row 28 2 n (zel M (upd (fdv c y) i)))]⟩
  refine cSeq ?_
  refine cReg ?_
  refine mV hTT (.d (.one (.v (.bool (decide (((i : Nat) : Int) < (n : Int))))))) rfl ?_
  refine mNil ?_
  refine tN ?_
  refine cSeq ?_
  refine cCond rfl (fun hc1 => ?_) (fun hc1 => ?_)
  · skip
    refine cSkip ?_
    refine tN ?_
    refine cSeq ?_
    refine cBlock ?_
    refine cSeq ?_
    have hin : i < n := by have h0 := of_decide_eq_true hc1; omega
    refine cReg ?_
    refine mV hTT _ rfl ?_
    refine mV hTT (.d (.one (.at 2 ((ael K fa) i)))) (ixR (el := (ael K fa)) (z := ((i : Nat) : Int)) (n := n) rfl rfl rfl rfl rfl rfl (by omega) (by omega)) ?_
    refine mV hTT (.d (.agg ([.v (.bool ((fa i).1)), lr K ((fa i).2)]))) rfl ?_
    refine mN hTT (.box 28 ([.v (.bool false), .v (.slice none 0 0)])) rfl rfl rfl ?_
    refine mV hTT _ rfl ?_
    refine mS hTT 7 (.box 28 ([.v (.bool ((fa i).1)), lr K ((fa i).2)])) rfl ?_
    refine mNil ?_
    refine tN ?_
    refine cReg ?_
    refine mV hTT _ rfl ?_
    refine mV hTT _ rfl ?_
    refine mV hTT (.d (.agg ([.v (.bool ((fa i).1)), lr K ((fa i).2)]))) rfl ?_
    refine mV hTT (.d (.agg ([.v (.bool s), lr L xs]))) rfl ?_
    refine mC0 (aExact ⟨_, _, fun _ _ _ h => h, ea i (by omega)⟩ ⟨s, xs, fun _ _ _ h => h, hy0⟩ hy (hd i hin) (M := (max K 1 + 1)) (by omega) (by omega) (by omega)) rfl rfl rfl ?_
    refine mV hTT _ rfl ?_
    refine mV hTT _ rfl ?_
    refine mV hTT _ rfl ?_
    refine mV hTT (.eptr 10 2 i 0) (ixO (z := ((i : Nat) : Int)) (n := n) rfl rfl rfl rfl rfl rfl rfl (by omega) (by omega)) ?_
    refine mS hTT 10 (.row 28 2 n (fun p' q' => if p' = i then ((zn (max K 1 + 1) ((c i) / y))[q']?).getD (.v undef) else (zel M (upd (fdv c y) i)) p' q')) rfl ?_
    refine mNil ?_
    refine bN ?_
    refine tN ?_
    refine cReg ?_
    refine mV hTT (.d (.one (.v (.int .i64 (IntKind.i64.wrap (((i : Nat) : Int) + 1)))))) rfl ?_
    refine mV hTT _ rfl ?_
    refine mNil ?_
    exact ⟨(i + 1), by omega, by omega, wk (sl := [(3, .ptr 3 0), (11, .d (.one (.row 2 n (ael K fa)))), (12, .d (.one (.v (.int .i64 (n : Int))))), (13, .d (.one (.v (.int .i64 (((i + 1) : Nat) : Int))))), (5, .own 10)]) (hp := [(3, .box 28 ([.v (.bool s), lr L xs])), (10, .row 28 2 n (zel M (upd (fdv c y) (i + 1))))]) rfl ⟨hs rfl, hs rfl, hs rfl, hs' rfl (le_int (inc64 (by omega))), hs rfl, trivial⟩ ⟨ho rfl, ho' rfl (st_z (Nat.le_refl _) (by omega) (upd_self (c := fdv c y)) (fun p _ hp => upd_ne hp)), trivial⟩ rfl⟩
  · skip
    refine cExit ?_
    refine tE ?_
    refine tE ?_
    refine bE ?_
    refine tN ?_
    refine cSeq ?_
    have hie : n = i := by have h0 := of_decide_eq_false hc1; omega
    subst hie
    refine AW.wk (wkRow 10 rfl) ?_
    refine cView 5 (.d (.one (.row 2 n (zel M (fdv c y))))) rfl (le_one (prow_le (Nat.le_refl _) (fun i hi => if_pos hi))) ?_
    refine cReg ?_
    refine mV hTT _ rfl ?_
    refine mC0 (aPNorm (isp (K := M) (c := (fdv c y)) (fdv_z za)) (by omega) (by omega)) rfl rfl rfl ?_
    refine mV hTT _ rfl ?_
    refine mNil ?_
    refine tN ?_
    refine cRet ?_
    exact rQ rfl (AV.le.rfl)

set_option maxRecDepth 100000 in
set_option maxHeartbeats 4000000 in
theorem aCNorm {a b : Lf} {d : List Lf} {K M n m : Nat} {x y : Nat → Int} {D : Int} (ha : IsP a K n x) (hb : IsP b K m y) (hd : IsZ d K D) (hn : n ≤ 1000) (hm : m ≤ 1000) (hM : max K 2 + 1 ≤ M) (hMM : M ≤ 10000000) : ACall Try.prog 17 [.agg (a :: b :: d)] (.d (.agg (crv M n m (ov (nzD D) x) (ov (nzD D) y)))) := by
  obtain ⟨⟨fa, ha, ea⟩, za⟩ := ha
  obtain ⟨⟨fb, hb, eb⟩, zb⟩ := hb
  obtain ⟨s, xs, hd, hy0⟩ := hd
  refine ACall.le (dl (DV.g (ls_abd ha hb hd)) dl0) AV.le.rfl ?_
  have hdx := dg_le x n
  have hdy := dg_le y m
  refine acallN hTT 44 [.cell 2 30] Try.func17 rfl rfl rfl rfl rfl ?_
  refine cSeq ?_
  refine cReg ?_
  refine mN hTT (.box 30 ([.row 2 n (ael K fa)] ++ [.row 2 m (ael K fb)] ++ [.v (.bool s), lr K xs])) rfl rfl rfl ?_
  refine mN hTT (.box 30 ([.v (.slice none 0 0), .v (.slice none 0 0), .v (.bool false), .v (.slice none 0 0)])) rfl rfl rfl ?_
  refine mNil ?_
  refine tN ?_
  refine cSeq ?_
  refine cDrawK hTT 12 (by kernel_rfl) (by kernel_rfl) (by kernel_rfl) ?_
  refine .cons (OpS.V (.ptr 1 0) rfl) ?_
  refine .cons (OpS.V (.d (.one (.row 2 n (ael K fa)))) rfl) ?_
  refine .cons (OpS.C0 (aPNorm (⟨⟨fa, fun _ _ _ h => h, ea⟩, za⟩ : IsP (arow K n fa) K n x) (by omega) (by omega)) rfl rfl rfl) ?_
  refine .cons (OpS.V (.ptr 1 1) rfl) ?_
  refine .cons (OpS.V (.d (.one (.row 2 m (ael K fb)))) rfl) ?_
  refine .cons (OpS.C0 (aPNorm (⟨⟨fb, fun _ _ _ h => h, eb⟩, zb⟩ : IsP (arow K m fb) K m y) (by omega) (by omega)) rfl rfl rfl) ?_
  refine .cons (OpS.V (.ptr 1 2) rfl) ?_
  refine .cons (OpS.V (.d (.agg ([.v (.bool s), lr K xs]))) rfl) ?_
  refine .cons (OpS.C0 (aNorm ⟨s, xs, fun _ _ _ h => h, hy0⟩ (by omega)) rfl rfl rfl) ?_
  refine .cons (OpS.N (.box 28 ([.v (.bool false), .v (.slice none 0 0)])) rfl 5 rfl rfl) ?_
  refine .cons (OpS.V _ rfl) ?_
  refine .cons (OpS.V _ rfl) ?_
  refine .nil ?_
  refine mS hTT 5 (.box 28 (zn K D)) rfl ?_
  refine mNil ?_
  refine tN ?_
  refine cSeq ?_
  refine cSeq ?_
  refine cReg ?_
  refine mV hTT (.d (.agg (zn K D))) rfl ?_
  refine mC0 (aZero (isn K D)) rfl rfl rfl ?_
  refine mNil ?_
  refine tN ?_
  by_cases hD : D = 0
  · skip
    have hD' : (1 : Int) ≠ 0 := by decide
    have hnz : nzD D = 1 := if_pos hD
    refine cView 17 (.d (.one (.v (.bool true)))) rfl (le_bool (decide_eq_true hD)) ?_
    refine cT rfl ?_
    refine cReg ?_
    refine mC0 (aOf (n := 1) (by decide) (by decide)) rfl rfl rfl ?_
    refine mS hTT 5 (.box 28 (zn 2 1)) rfl ?_
    refine mNil ?_
    refine tN ?_
    refine cSeq ?_
    refine cReg ?_
    refine mV hTT (.d (.agg (zn 2 1))) rfl ?_
    refine mR hTT (.row 28 2 1 (fun i' j' => ((zn 2 1)[i' * 2 + j']?).getD (.v undef))) rfl rfl rfl ?_
    refine mV hTT _ rfl ?_
    refine mA2 hTT (id := 20) (n := 1) (m := (dg x n)) (el := (fun i' j' => ((zn 2 1)[i' * 2 + j']?).getD (.v undef))) (el2 := (zel K x)) rfl rfl rfl (by show (1 + (dg x n)) * 32 ≤ 140737488355328; omega) (by omega) rfl rfl rfl rfl rfl rfl rfl rfl rfl rfl rfl rfl ?_
    refine mV hTT _ rfl ?_
    refine mA2 hTT (id := 20) (n := (1 + (dg x n))) (m := (dg y m)) (el := (appEl 1 (fun i' j' => ((zn 2 1)[i' * 2 + j']?).getD (.v undef)) (zel K x))) (el2 := (zel K y)) rfl rfl rfl (by show ((1 + (dg x n)) + (dg y m)) * 32 ≤ 140737488355328; omega) (by omega) rfl rfl rfl rfl rfl rfl rfl rfl rfl rfl rfl rfl ?_
    refine AL.wk (wkRow 20 rfl) ?_
    refine mC0 (aGcd (isp_g (K := max K 2) (K1 := K) (K2 := K) (K3 := 2) (n := dg x n) (m := dg y m) (D := 1) (x := x) (y := y) (by omega) (by omega) (by omega) (dg_z zb)) (by omega) (by omega)) rfl rfl rfl ?_
    refine mView 25 (.d (.agg (zn (max K 2) (((gD 1 (dg x n) x (dg y m) y) : Nat) : Int)))) rfl (AV.le.rfl) ?_
    refine mN hTT (.box 28 ([.v (.bool false), .v (.slice none 0 0)])) rfl rfl rfl ?_
    refine mS hTT 6 (.box 28 (zn (max K 2) (((gD 1 (dg x n) x (dg y m) y) : Nat) : Int))) rfl ?_
    refine mNil ?_
    refine tN ?_
    refine cSeq ?_
    refine cSeq ?_
    refine cReg ?_
    refine mV hTT (.ptr 5 0) rfl ?_
    refine mV hTT (.d (.one (.v (.bool (decide ((1 : Int) < 0)))))) rfl ?_
    refine mNil ?_
    refine tN ?_
    refine cCond rfl (fun hc1 => ?_) (fun hc1 => ?_)
    · skip
      refine cReg ?_
      refine mV hTT (.d (.agg (zn (max K 2) (((gD 1 (dg x n) x (dg y m) y) : Nat) : Int)))) rfl ?_
      refine mC0 (aNeg (isz (max K 2) (((gD 1 (dg x n) x (dg y m) y) : Nat) : Int)) (by omega)) rfl rfl rfl ?_
      refine mS hTT 6 (.box 28 (zn (max K 2) (-(((gD 1 (dg x n) x (dg y m) y) : Nat) : Int)))) rfl ?_
      refine mNil ?_
      refine tN ?_
      refine cSeq ?_
      refine AW.wk (wk (sl := [(2, .ptr 2 0), (5, .ptr 5 0), (3, .d (.one (.row 2 (dg x n) (zel K x)))), (4, .d (.one (.row 2 (dg y m) (zel K y)))), (6, .ptr 6 0)]) (hp := [(1, .box 30 ([.row 2 n (ael K fa)] ++ [.row 2 m (ael K fb)] ++ [.v (.bool s), lr K xs])), (2, .box 30 ([.v (.slice none 0 0), .v (.slice none 0 0), .v (.bool false), .v (.slice none 0 0)])), (5, .box 28 (zn 2 1)), (6, .box 28 (zn (max K 2) (gS 1 (gD 1 (dg x n) x (dg y m) y))))]) rfl ⟨hs rfl, hs rfl, hs rfl, hs rfl, hs rfl, trivial⟩ ⟨ho rfl, ho rfl, ho rfl, ho' rfl (leo_zn (Nat.le_refl _) ((if_pos (of_decide_eq_true hc1)).symm)), trivial⟩ rfl) ?_
      refine cReg ?_
      refine mV hTT (.d (.agg (zn 2 1))) rfl ?_
      refine mV hTT (.d (.agg (zn (max K 2) (gS 1 (gD 1 (dg x n) x (dg y m) y))))) rfl ?_
      refine mC0 (aExact (isz 2 1) (isz (max K 2) (gS 1 (gD 1 (dg x n) x (dg y m) y))) (gS_ne (gD_pos hD')) (gS_dvd gD_D) (M := 3) (by decide) (by decide) (by omega)) rfl rfl rfl ?_
      refine mV hTT _ rfl ?_
      refine mV hTT _ rfl ?_
      refine mV hTT _ rfl ?_
      refine mS hTT 5 (.box 28 (zn 3 (1 / (gS 1 (gD 1 (dg x n) x (dg y m) y))))) rfl ?_
      refine mNil ?_
      refine tN ?_
      refine cSeq ?_
      refine cDrawK hTT 8 (by kernel_rfl) (by kernel_rfl) (by kernel_rfl) ?_
      refine .cons (OpS.V _ rfl) ?_
      refine .cons (OpS.V (.d (.agg (zn (max K 2) (gS 1 (gD 1 (dg x n) x (dg y m) y))))) rfl) ?_
      refine .cons (OpS.C0 (aCOver (isp (K := K) (c := x) (dg_z za)) (isz (max K 2) (gS 1 (gD 1 (dg x n) x (dg y m) y))) (gS_ne (gD_pos hD')) (fun i hi => gS_dvd (gD_x hi)) (by omega) (M := (max K 1 + 1)) (by omega) (by omega) (by omega)) rfl rfl rfl) ?_
      refine .cons (OpS.V _ rfl) ?_
      refine .cons (OpS.V (.d (.agg (zn (max K 2) (gS 1 (gD 1 (dg x n) x (dg y m) y))))) rfl) ?_
      refine .cons (OpS.C0 (aCOver (isp (K := K) (c := y) (dg_z zb)) (isz (max K 2) (gS 1 (gD 1 (dg x n) x (dg y m) y))) (gS_ne (gD_pos hD')) (fun i hi => gS_dvd (gD_y hi)) (by omega) (M := (max K 1 + 1)) (by omega) (by omega) (by omega)) rfl rfl rfl) ?_
      refine .cons (OpS.V (.d (.agg (zn 3 (1 / (gS 1 (gD 1 (dg x n) x (dg y m) y)))))) rfl) ?_
      refine .cons (OpS.V (.d (.agg ([.row 2 (dg (fdv x (gS 1 (gD 1 (dg x n) x (dg y m) y))) (dg x n)) (zel (max K 1 + 1) (fdv x (gS 1 (gD 1 (dg x n) x (dg y m) y))))] ++ [.row 2 (dg (fdv y (gS 1 (gD 1 (dg x n) x (dg y m) y))) (dg y m)) (zel (max K 1 + 1) (fdv y (gS 1 (gD 1 (dg x n) x (dg y m) y))))] ++ zn 3 (1 / (gS 1 (gD 1 (dg x n) x (dg y m) y)))))) rfl) ?_
      refine .nil ?_
      refine mS hTT 2 (.box 30 ([.row 2 (dg (fdv x (gS 1 (gD 1 (dg x n) x (dg y m) y))) (dg x n)) (zel (max K 1 + 1) (fdv x (gS 1 (gD 1 (dg x n) x (dg y m) y))))] ++ [.row 2 (dg (fdv y (gS 1 (gD 1 (dg x n) x (dg y m) y))) (dg y m)) (zel (max K 1 + 1) (fdv y (gS 1 (gD 1 (dg x n) x (dg y m) y))))] ++ zn 3 (1 / (gS 1 (gD 1 (dg x n) x (dg y m) y))))) rfl ?_
      refine mNil ?_
      refine tN ?_
      refine cRet ?_
      exact rQ rfl (by rw [hnz]; exact le_norm hD' (by omega) (by omega) (by omega))
    · skip
      refine cSkip ?_
      refine tN ?_
      refine cSeq ?_
      refine AW.wk (wk (sl := [(2, .ptr 2 0), (5, .ptr 5 0), (3, .d (.one (.row 2 (dg x n) (zel K x)))), (4, .d (.one (.row 2 (dg y m) (zel K y)))), (6, .ptr 6 0)]) (hp := [(1, .box 30 ([.row 2 n (ael K fa)] ++ [.row 2 m (ael K fb)] ++ [.v (.bool s), lr K xs])), (2, .box 30 ([.v (.slice none 0 0), .v (.slice none 0 0), .v (.bool false), .v (.slice none 0 0)])), (5, .box 28 (zn 2 1)), (6, .box 28 (zn (max K 2) (gS 1 (gD 1 (dg x n) x (dg y m) y))))]) rfl ⟨hs rfl, hs rfl, hs rfl, hs rfl, hs rfl, trivial⟩ ⟨ho rfl, ho rfl, ho rfl, ho' rfl (leo_zn (Nat.le_refl _) ((if_neg (of_decide_eq_false hc1)).symm)), trivial⟩ rfl) ?_
      refine cReg ?_
      refine mV hTT (.d (.agg (zn 2 1))) rfl ?_
      refine mV hTT (.d (.agg (zn (max K 2) (gS 1 (gD 1 (dg x n) x (dg y m) y))))) rfl ?_
      refine mC0 (aExact (isz 2 1) (isz (max K 2) (gS 1 (gD 1 (dg x n) x (dg y m) y))) (gS_ne (gD_pos hD')) (gS_dvd gD_D) (M := 3) (by decide) (by decide) (by omega)) rfl rfl rfl ?_
      refine mV hTT _ rfl ?_
      refine mV hTT _ rfl ?_
      refine mV hTT _ rfl ?_
      refine mS hTT 5 (.box 28 (zn 3 (1 / (gS 1 (gD 1 (dg x n) x (dg y m) y))))) rfl ?_
      refine mNil ?_
      refine tN ?_
      refine cSeq ?_
      refine cDrawK hTT 8 (by kernel_rfl) (by kernel_rfl) (by kernel_rfl) ?_
      refine .cons (OpS.V _ rfl) ?_
      refine .cons (OpS.V (.d (.agg (zn (max K 2) (gS 1 (gD 1 (dg x n) x (dg y m) y))))) rfl) ?_
      refine .cons (OpS.C0 (aCOver (isp (K := K) (c := x) (dg_z za)) (isz (max K 2) (gS 1 (gD 1 (dg x n) x (dg y m) y))) (gS_ne (gD_pos hD')) (fun i hi => gS_dvd (gD_x hi)) (by omega) (M := (max K 1 + 1)) (by omega) (by omega) (by omega)) rfl rfl rfl) ?_
      refine .cons (OpS.V _ rfl) ?_
      refine .cons (OpS.V (.d (.agg (zn (max K 2) (gS 1 (gD 1 (dg x n) x (dg y m) y))))) rfl) ?_
      refine .cons (OpS.C0 (aCOver (isp (K := K) (c := y) (dg_z zb)) (isz (max K 2) (gS 1 (gD 1 (dg x n) x (dg y m) y))) (gS_ne (gD_pos hD')) (fun i hi => gS_dvd (gD_y hi)) (by omega) (M := (max K 1 + 1)) (by omega) (by omega) (by omega)) rfl rfl rfl) ?_
      refine .cons (OpS.V (.d (.agg (zn 3 (1 / (gS 1 (gD 1 (dg x n) x (dg y m) y)))))) rfl) ?_
      refine .cons (OpS.V (.d (.agg ([.row 2 (dg (fdv x (gS 1 (gD 1 (dg x n) x (dg y m) y))) (dg x n)) (zel (max K 1 + 1) (fdv x (gS 1 (gD 1 (dg x n) x (dg y m) y))))] ++ [.row 2 (dg (fdv y (gS 1 (gD 1 (dg x n) x (dg y m) y))) (dg y m)) (zel (max K 1 + 1) (fdv y (gS 1 (gD 1 (dg x n) x (dg y m) y))))] ++ zn 3 (1 / (gS 1 (gD 1 (dg x n) x (dg y m) y)))))) rfl) ?_
      refine .nil ?_
      refine mS hTT 2 (.box 30 ([.row 2 (dg (fdv x (gS 1 (gD 1 (dg x n) x (dg y m) y))) (dg x n)) (zel (max K 1 + 1) (fdv x (gS 1 (gD 1 (dg x n) x (dg y m) y))))] ++ [.row 2 (dg (fdv y (gS 1 (gD 1 (dg x n) x (dg y m) y))) (dg y m)) (zel (max K 1 + 1) (fdv y (gS 1 (gD 1 (dg x n) x (dg y m) y))))] ++ zn 3 (1 / (gS 1 (gD 1 (dg x n) x (dg y m) y))))) rfl ?_
      refine mNil ?_
      refine tN ?_
      refine cRet ?_
      exact rQ rfl (by rw [hnz]; exact le_norm hD' (by omega) (by omega) (by omega))
  · skip
    have hD' : (D : Int) ≠ 0 := hD
    have hnz : nzD D = D := if_neg hD
    refine cView 17 (.d (.one (.v (.bool false)))) rfl (le_bool (decide_eq_false hD)) ?_
    refine cF rfl ?_
    refine cSkip ?_
    refine tN ?_
    refine cSeq ?_
    refine cReg ?_
    refine mV hTT (.d (.agg (zn K D))) rfl ?_
    refine mR hTT (.row 28 2 1 (fun i' j' => ((zn K D)[i' * 2 + j']?).getD (.v undef))) rfl rfl rfl ?_
    refine mV hTT _ rfl ?_
    refine mA2 hTT (id := 20) (n := 1) (m := (dg x n)) (el := (fun i' j' => ((zn K D)[i' * 2 + j']?).getD (.v undef))) (el2 := (zel K x)) rfl rfl rfl (by show (1 + (dg x n)) * 32 ≤ 140737488355328; omega) (by omega) rfl rfl rfl rfl rfl rfl rfl rfl rfl rfl rfl rfl ?_
    refine mV hTT _ rfl ?_
    refine mA2 hTT (id := 20) (n := (1 + (dg x n))) (m := (dg y m)) (el := (appEl 1 (fun i' j' => ((zn K D)[i' * 2 + j']?).getD (.v undef)) (zel K x))) (el2 := (zel K y)) rfl rfl rfl (by show ((1 + (dg x n)) + (dg y m)) * 32 ≤ 140737488355328; omega) (by omega) rfl rfl rfl rfl rfl rfl rfl rfl rfl rfl rfl rfl ?_
    refine AL.wk (wkRow 20 rfl) ?_
    refine mC0 (aGcd (isp_g (K := max K 2) (K1 := K) (K2 := K) (K3 := K) (n := dg x n) (m := dg y m) (D := D) (x := x) (y := y) (by omega) (by omega) (by omega) (dg_z zb)) (by omega) (by omega)) rfl rfl rfl ?_
    refine mView 25 (.d (.agg (zn (max K 2) (((gD D (dg x n) x (dg y m) y) : Nat) : Int)))) rfl (AV.le.rfl) ?_
    refine mN hTT (.box 28 ([.v (.bool false), .v (.slice none 0 0)])) rfl rfl rfl ?_
    refine mS hTT 6 (.box 28 (zn (max K 2) (((gD D (dg x n) x (dg y m) y) : Nat) : Int))) rfl ?_
    refine mNil ?_
    refine tN ?_
    refine cSeq ?_
    refine cSeq ?_
    refine cReg ?_
    refine mV hTT (.ptr 5 0) rfl ?_
    refine mV hTT (.d (.one (.v (.bool (decide (D < 0)))))) rfl ?_
    refine mNil ?_
    refine tN ?_
    refine cCond rfl (fun hc2 => ?_) (fun hc2 => ?_)
    · skip
      refine cReg ?_
      refine mV hTT (.d (.agg (zn (max K 2) (((gD D (dg x n) x (dg y m) y) : Nat) : Int)))) rfl ?_
      refine mC0 (aNeg (isz (max K 2) (((gD D (dg x n) x (dg y m) y) : Nat) : Int)) (by omega)) rfl rfl rfl ?_
      refine mS hTT 6 (.box 28 (zn (max K 2) (-(((gD D (dg x n) x (dg y m) y) : Nat) : Int)))) rfl ?_
      refine mNil ?_
      refine tN ?_
      refine cSeq ?_
      refine AW.wk (wk (sl := [(2, .ptr 2 0), (5, .ptr 5 0), (3, .d (.one (.row 2 (dg x n) (zel K x)))), (4, .d (.one (.row 2 (dg y m) (zel K y)))), (6, .ptr 6 0)]) (hp := [(1, .box 30 ([.row 2 n (ael K fa)] ++ [.row 2 m (ael K fb)] ++ [.v (.bool s), lr K xs])), (2, .box 30 ([.v (.slice none 0 0), .v (.slice none 0 0), .v (.bool false), .v (.slice none 0 0)])), (5, .box 28 (zn K D)), (6, .box 28 (zn (max K 2) (gS D (gD D (dg x n) x (dg y m) y))))]) rfl ⟨hs rfl, hs rfl, hs rfl, hs rfl, hs rfl, trivial⟩ ⟨ho rfl, ho rfl, ho rfl, ho' rfl (leo_zn (Nat.le_refl _) ((if_pos (of_decide_eq_true hc2)).symm)), trivial⟩ rfl) ?_
      refine cReg ?_
      refine mV hTT (.d (.agg (zn K D))) rfl ?_
      refine mV hTT (.d (.agg (zn (max K 2) (gS D (gD D (dg x n) x (dg y m) y))))) rfl ?_
      refine mC0 (aExact (isz K D) (isz (max K 2) (gS D (gD D (dg x n) x (dg y m) y))) (gS_ne (gD_pos hD')) (gS_dvd gD_D) (M := (max K 1 + 1)) (by omega) (by omega) (by omega)) rfl rfl rfl ?_
      refine mV hTT _ rfl ?_
      refine mV hTT _ rfl ?_
      refine mV hTT _ rfl ?_
      refine mS hTT 5 (.box 28 (zn (max K 1 + 1) (D / (gS D (gD D (dg x n) x (dg y m) y))))) rfl ?_
      refine mNil ?_
      refine tN ?_
      refine cSeq ?_
      refine cDrawK hTT 8 (by kernel_rfl) (by kernel_rfl) (by kernel_rfl) ?_
      refine .cons (OpS.V _ rfl) ?_
      refine .cons (OpS.V (.d (.agg (zn (max K 2) (gS D (gD D (dg x n) x (dg y m) y))))) rfl) ?_
      refine .cons (OpS.C0 (aCOver (isp (K := K) (c := x) (dg_z za)) (isz (max K 2) (gS D (gD D (dg x n) x (dg y m) y))) (gS_ne (gD_pos hD')) (fun i hi => gS_dvd (gD_x hi)) (by omega) (M := (max K 1 + 1)) (by omega) (by omega) (by omega)) rfl rfl rfl) ?_
      refine .cons (OpS.V _ rfl) ?_
      refine .cons (OpS.V (.d (.agg (zn (max K 2) (gS D (gD D (dg x n) x (dg y m) y))))) rfl) ?_
      refine .cons (OpS.C0 (aCOver (isp (K := K) (c := y) (dg_z zb)) (isz (max K 2) (gS D (gD D (dg x n) x (dg y m) y))) (gS_ne (gD_pos hD')) (fun i hi => gS_dvd (gD_y hi)) (by omega) (M := (max K 1 + 1)) (by omega) (by omega) (by omega)) rfl rfl rfl) ?_
      refine .cons (OpS.V (.d (.agg (zn (max K 1 + 1) (D / (gS D (gD D (dg x n) x (dg y m) y)))))) rfl) ?_
      refine .cons (OpS.V (.d (.agg ([.row 2 (dg (fdv x (gS D (gD D (dg x n) x (dg y m) y))) (dg x n)) (zel (max K 1 + 1) (fdv x (gS D (gD D (dg x n) x (dg y m) y))))] ++ [.row 2 (dg (fdv y (gS D (gD D (dg x n) x (dg y m) y))) (dg y m)) (zel (max K 1 + 1) (fdv y (gS D (gD D (dg x n) x (dg y m) y))))] ++ zn (max K 1 + 1) (D / (gS D (gD D (dg x n) x (dg y m) y)))))) rfl) ?_
      refine .nil ?_
      refine mS hTT 2 (.box 30 ([.row 2 (dg (fdv x (gS D (gD D (dg x n) x (dg y m) y))) (dg x n)) (zel (max K 1 + 1) (fdv x (gS D (gD D (dg x n) x (dg y m) y))))] ++ [.row 2 (dg (fdv y (gS D (gD D (dg x n) x (dg y m) y))) (dg y m)) (zel (max K 1 + 1) (fdv y (gS D (gD D (dg x n) x (dg y m) y))))] ++ zn (max K 1 + 1) (D / (gS D (gD D (dg x n) x (dg y m) y))))) rfl ?_
      refine mNil ?_
      refine tN ?_
      refine cRet ?_
      exact rQ rfl (by rw [hnz]; exact le_norm hD' (by omega) (by omega) (by omega))
    · skip
      refine cSkip ?_
      refine tN ?_
      refine cSeq ?_
      refine AW.wk (wk (sl := [(2, .ptr 2 0), (5, .ptr 5 0), (3, .d (.one (.row 2 (dg x n) (zel K x)))), (4, .d (.one (.row 2 (dg y m) (zel K y)))), (6, .ptr 6 0)]) (hp := [(1, .box 30 ([.row 2 n (ael K fa)] ++ [.row 2 m (ael K fb)] ++ [.v (.bool s), lr K xs])), (2, .box 30 ([.v (.slice none 0 0), .v (.slice none 0 0), .v (.bool false), .v (.slice none 0 0)])), (5, .box 28 (zn K D)), (6, .box 28 (zn (max K 2) (gS D (gD D (dg x n) x (dg y m) y))))]) rfl ⟨hs rfl, hs rfl, hs rfl, hs rfl, hs rfl, trivial⟩ ⟨ho rfl, ho rfl, ho rfl, ho' rfl (leo_zn (Nat.le_refl _) ((if_neg (of_decide_eq_false hc2)).symm)), trivial⟩ rfl) ?_
      refine cReg ?_
      refine mV hTT (.d (.agg (zn K D))) rfl ?_
      refine mV hTT (.d (.agg (zn (max K 2) (gS D (gD D (dg x n) x (dg y m) y))))) rfl ?_
      refine mC0 (aExact (isz K D) (isz (max K 2) (gS D (gD D (dg x n) x (dg y m) y))) (gS_ne (gD_pos hD')) (gS_dvd gD_D) (M := (max K 1 + 1)) (by omega) (by omega) (by omega)) rfl rfl rfl ?_
      refine mV hTT _ rfl ?_
      refine mV hTT _ rfl ?_
      refine mV hTT _ rfl ?_
      refine mS hTT 5 (.box 28 (zn (max K 1 + 1) (D / (gS D (gD D (dg x n) x (dg y m) y))))) rfl ?_
      refine mNil ?_
      refine tN ?_
      refine cSeq ?_
      refine cDrawK hTT 8 (by kernel_rfl) (by kernel_rfl) (by kernel_rfl) ?_
      refine .cons (OpS.V _ rfl) ?_
      refine .cons (OpS.V (.d (.agg (zn (max K 2) (gS D (gD D (dg x n) x (dg y m) y))))) rfl) ?_
      refine .cons (OpS.C0 (aCOver (isp (K := K) (c := x) (dg_z za)) (isz (max K 2) (gS D (gD D (dg x n) x (dg y m) y))) (gS_ne (gD_pos hD')) (fun i hi => gS_dvd (gD_x hi)) (by omega) (M := (max K 1 + 1)) (by omega) (by omega) (by omega)) rfl rfl rfl) ?_
      refine .cons (OpS.V _ rfl) ?_
      refine .cons (OpS.V (.d (.agg (zn (max K 2) (gS D (gD D (dg x n) x (dg y m) y))))) rfl) ?_
      refine .cons (OpS.C0 (aCOver (isp (K := K) (c := y) (dg_z zb)) (isz (max K 2) (gS D (gD D (dg x n) x (dg y m) y))) (gS_ne (gD_pos hD')) (fun i hi => gS_dvd (gD_y hi)) (by omega) (M := (max K 1 + 1)) (by omega) (by omega) (by omega)) rfl rfl rfl) ?_
      refine .cons (OpS.V (.d (.agg (zn (max K 1 + 1) (D / (gS D (gD D (dg x n) x (dg y m) y)))))) rfl) ?_
      refine .cons (OpS.V (.d (.agg ([.row 2 (dg (fdv x (gS D (gD D (dg x n) x (dg y m) y))) (dg x n)) (zel (max K 1 + 1) (fdv x (gS D (gD D (dg x n) x (dg y m) y))))] ++ [.row 2 (dg (fdv y (gS D (gD D (dg x n) x (dg y m) y))) (dg y m)) (zel (max K 1 + 1) (fdv y (gS D (gD D (dg x n) x (dg y m) y))))] ++ zn (max K 1 + 1) (D / (gS D (gD D (dg x n) x (dg y m) y)))))) rfl) ?_
      refine .nil ?_
      refine mS hTT 2 (.box 30 ([.row 2 (dg (fdv x (gS D (gD D (dg x n) x (dg y m) y))) (dg x n)) (zel (max K 1 + 1) (fdv x (gS D (gD D (dg x n) x (dg y m) y))))] ++ [.row 2 (dg (fdv y (gS D (gD D (dg x n) x (dg y m) y))) (dg y m)) (zel (max K 1 + 1) (fdv y (gS D (gD D (dg x n) x (dg y m) y))))] ++ zn (max K 1 + 1) (D / (gS D (gD D (dg x n) x (dg y m) y))))) rfl ?_
      refine mNil ?_
      refine tN ?_
      refine cRet ?_
      exact rQ rfl (by rw [hnz]; exact le_norm hD' (by omega) (by omega) (by omega))

theorem aCNormC {K M n m : Nat} {p q : Nat → Rat} (zp : ∀ i, n ≤ i → p i = 0) (zq : ∀ i, m ≤ i → q i = 0) (hn : n ≤ 1000) (hm : m ≤ 1000) (hM : max K 2 + 1 ≤ M) (hMM : M ≤ 10000000) : ACall Try.prog 17 [.agg (crv K n m p q)] (.d (.agg (crv M n m p q))) := by
  have h1 := dg_le p n
  have h2 := dg_le q m
  exact ACall.le (dl DV.same dl0) (le_crv (Nat.le_refl _) (ov_zz (nzD_ne _) (cX_z (dg_z zp))) (ov_zz (nzD_ne _) (cX_z (dg_z zq))) zp zq (ov_crL zp) (ov_crL2 zq)) (aCNorm (a := prow K (dg p n) (cX (crL n m p q) p)) (b := prow K (dg q m) (cX (crL n m p q) q)) (d := zn K (crL n m p q : Int)) (isp (cX_z (dg_z zp))) (isp (cX_z (dg_z zq))) (isz K _) (by omega) (by omega) hM hMM)
set_option maxRecDepth 100000 in
set_option maxHeartbeats 4000000 in
theorem aCMake {a b : Lf} {d : List Lf} {K M n m : Nat} {x y : Nat → Int} {D : Int} (ha : IsP a K n x) (hb : IsP b K m y) (hd : IsZ d K D) (hD : D ≠ 0) (hn : n ≤ 1000) (hm : m ≤ 1000) (hM : max K 2 + 1 ≤ M) (hMM : M ≤ 10000000) : ACall Try.prog 22 [.one a, .one b, .agg d] (.tup [.agg (crv M n m (ov D x) (ov D y)), .one (.v (.int .i64 0))]) := by
  obtain ⟨⟨fa, ha, ea⟩, za⟩ := ha
  obtain ⟨⟨fb, hb, eb⟩, zb⟩ := hb
  obtain ⟨s, xs, hd, hy0⟩ := hd
  refine ACall.le (dl (DV.l ha) (dl (DV.l hb) (dl (DV.z hd) dl0))) AV.le.rfl ?_
  refine acallN hTT 17 [.cell 6 30, .tmp 7] Try.func22 rfl rfl rfl rfl rfl ?_
  refine cSeq ?_
  refine cReg ?_
  refine mN hTT (.box 28 ([.v (.bool s), lr K xs])) rfl rfl rfl ?_
  refine mN hTT (.box 30 ([.v (.slice none 0 0), .v (.slice none 0 0), .v (.bool false), .v (.slice none 0 0)])) rfl rfl rfl ?_
  refine mV hTT _ rfl ?_
  refine mNil ?_
  refine tN ?_
  refine cSeq ?_
  refine cSeq ?_
  refine cReg ?_
  refine mV hTT (.d (.agg ([.v (.bool s), lr K xs]))) rfl ?_
  refine mC0 (aNorm ⟨s, xs, fun _ _ _ h => h, hy0⟩ (by omega)) rfl rfl rfl ?_
  refine mC0 (aZero (isn K D)) rfl rfl rfl ?_
  refine mNil ?_
  refine tN ?_
  refine cView 10 (.d (.one (.v (.bool false)))) rfl (le_bool (decide_eq_false hD)) ?_
  refine cF rfl ?_
  refine cSkip ?_
  refine tN ?_
  refine cSeq ?_
  refine cReg ?_
  refine mV hTT _ rfl ?_
  refine mV hTT _ rfl ?_
  refine mV hTT (.d (.agg ([.v (.bool s), lr K xs]))) rfl ?_
  refine mV hTT (.d (.agg ([.row 2 n (ael K fa)] ++ [.row 2 m (ael K fb)] ++ [.v (.bool s), lr K xs]))) rfl ?_
  refine mC0 (aCNorm (⟨⟨fa, fun _ _ _ h => h, ea⟩, za⟩ : IsP (arow K n fa) K n x) (⟨⟨fb, fun _ _ _ h => h, eb⟩, zb⟩ : IsP (arow K m fb) K m y) ⟨s, xs, fun _ _ _ h => h, hy0⟩ (M := (max K 2 + 1)) (by omega) (by omega) (by omega) (by omega)) rfl rfl rfl ?_
  refine mS hTT 6 (.box 30 (crv (max K 2 + 1) n m (ov (nzD D) x) (ov (nzD D) y))) rfl ?_
  refine mV hTT _ rfl ?_
  refine mNil ?_
  refine tN ?_
  refine cRet ?_
  exact rQ rfl (le_tup (dl (dle (le_crv (by omega) (ov_zz (nzD_ne _) za) (ov_zz (nzD_ne _) zb) (ov_zz hD za) (ov_zz hD zb) (fun i => by rw [show nzD D = D from if_neg hD]) (fun i => by rw [show nzD D = D from if_neg hD]))) (dl DV.same dl0)))

set_option maxRecDepth 100000 in
set_option maxHeartbeats 4000000 in
theorem aCOf {a b : Lf} {K M n m : Nat} {x y : Nat → Int} (ha : IsP a K n x) (hb : IsP b K m y) (hn : n ≤ 1000) (hm : m ≤ 1000) (hM : max K 2 + 1 ≤ M) (hMM : M ≤ 10000000) : ACall Try.prog 10 [.one a, .one b] (.d (.agg (crv M n m (rc x) (rc y)))) := by
  obtain ⟨⟨fa, ha, ea⟩, za⟩ := ha
  obtain ⟨⟨fb, hb, eb⟩, zb⟩ := hb
  refine ACall.le (dl (DV.l ha) (dl (DV.l hb) dl0)) AV.le.rfl ?_
  refine acallN hTT 9 [.cell 4 30] Try.func10 rfl rfl rfl rfl rfl ?_
  refine cSeq ?_
  refine cReg ?_
  refine mN hTT (.box 30 ([.v (.slice none 0 0), .v (.slice none 0 0), .v (.bool false), .v (.slice none 0 0)])) rfl rfl rfl ?_
  refine mNil ?_
  refine tN ?_
  refine cSeq ?_
  refine cReg ?_
  refine mV hTT _ rfl ?_
  refine mV hTT _ rfl ?_
  refine mV hTT (.d (.agg ([.row 2 n (ael K fa), .row 2 m (ael K fb), .v (.bool false), .v (.slice none 0 0)]))) rfl ?_
  refine mC0 (aCNorm (IsP.mono (L := (max K (max K 0))) (⟨⟨fa, fun _ _ _ h => h, ea⟩, za⟩ : IsP (arow K n fa) K n x) (by omega)) (IsP.mono (L := (max K (max K 0))) (⟨⟨fb, fun _ _ _ h => h, eb⟩, zb⟩ : IsP (arow K m fb) K m y) (by omega)) (IsZ.mono (L := (max K (max K 0))) isz_nil (by omega)) (M := (max (max K (max K 0)) 2 + 1)) (by omega) (by omega) (by omega) (by omega)) rfl rfl rfl ?_
  refine mS hTT 4 (.box 30 (crv (max (max K (max K 0)) 2 + 1) n m (ov (nzD (0 : Int)) x) (ov (nzD (0 : Int)) y))) rfl ?_
  refine mNil ?_
  refine tN ?_
  refine cRet ?_
  exact rQ rfl (le_crv (by omega) (ov_zz (nzD_ne _) za) (ov_zz (nzD_ne _) zb) (rc_z za) (rc_z zb) (ov_one x) (ov_one y))

def degC (n m : Nat) (p q : Nat → Rat) : Nat := max (max (dg p n) (dg q m)) 1 - 1
set_option maxRecDepth 100000 in
set_option maxHeartbeats 4000000 in
theorem aCDeg {K n m : Nat} {p q : Nat → Rat} (zp : ∀ i, n ≤ i → p i = 0) (zq : ∀ i, m ≤ i → q i = 0) (hn : n ≤ 1000) (hm : m ≤ 1000) (hK : K ≤ 1000000) : ACall Try.prog 15 [.agg (crv K n m p q)] (.d (.one (.v (.int .i64 ((degC n m p q : Nat) : Int))))) := by
  have hdp := dg_le p n
  have hdq := dg_le q m
  refine acallN hTT 12 [.tmp 2] Try.func15 rfl rfl rfl rfl rfl ?_
  refine cSeq ?_
  refine cReg ?_
  refine mN hTT (.box 30 (crv K n m p q)) rfl rfl rfl ?_
  refine mV hTT _ rfl ?_
  refine mNil ?_
  refine tN ?_
  refine cSeq ?_
  refine cReg ?_
  refine mV hTT (.d (.agg (crv K n m p q))) rfl ?_
  refine mC0 (aCNormC (K := K) (n := n) (m := m) (M := (max K 2 + 1)) zp zq (by omega) (by omega) (by omega) (by omega)) rfl rfl rfl ?_
  refine mS hTT 1 (.box 30 (crv (max K 2 + 1) n m p q)) rfl ?_
  refine mNil ?_
  refine tN ?_
  refine cSeq ?_
  refine cDrawK hTT 8 (by kernel_rfl) (by kernel_rfl) (by kernel_rfl) ?_
  refine .cons (OpS.V (.ptr 1 0) rfl) ?_
  refine .cons (OpS.V (.d (.one (.row 2 (dg p n) (zel (max K 2 + 1) (cX (crL n m p q) p))))) rfl) ?_
  refine .cons (OpS.C0 (aDeg (K := (max K 2 + 1)) (n := (dg p n)) (c := (cX (crL n m p q) p)) (by omega)) rfl rfl rfl) ?_
  refine .cons (OpS.V (.ptr 1 1) rfl) ?_
  refine .cons (OpS.V (.d (.one (.row 2 (dg q m) (zel (max K 2 + 1) (cX (crL n m p q) q))))) rfl) ?_
  refine .cons (OpS.C0 (aDeg (K := (max K 2 + 1)) (n := (dg q m)) (c := (cX (crL n m p q) q)) (by omega)) rfl rfl rfl) ?_
  refine .cons (OpS.V (.d (.one (.v (.int .i64 ((degC n m p q : Nat) : Int))))) (evi (by rw [if_pos rfl, if_pos rfl]; unfold degC; omega))) ?_
  refine .cons (OpS.V _ rfl) ?_
  refine .nil ?_
  refine mNil ?_
  refine tN ?_
  refine cRet ?_
  exact rQ rfl (AV.le.rfl)

end Go.Proofs.Ytpnoklbijfmoaaa

/-
  THE ABSTRACT MACHINE, 13: leaves of which something is said that is found out later (exL); own rows that lie in the cells of own variables. No condition; nothing of the program.
-/
set_option linter.unusedVariables false
set_option linter.unusedSimpArgs false
namespace Go.Proofs.Ytpnoklbijfmoaaa
open Go.RowKit

/-- One of the leaves L x with Q x. -/
def exL {α : Type} (Q : α → Prop) (L : α → Lf) : Lf := .sm ⟨fun B w v => ∃ x, Q x ∧ LfR B w (L x) v, fun _ _ _ ⟨_, _, h⟩ => h.one, fun _ _ _ _ _ ⟨x, hq, h⟩ hk hB => ⟨x, hq, h.mv hk hB⟩⟩
theorem exL_intro {α : Type} {Q : α → Prop} {L : α → Lf} (x : α) (hq : Q x) : AV.le (.d (.one (L x))) (.d (.one (exL Q L))) := fun _ _ _ _ h => ⟨x, hq, h⟩
theorem exL_le {α : Type} {Q : α → Prop} {L : α → Lf} {l : Lf} (x : α) (hq : Q x) (h : ∀ B w v, LfR B w l v → LfR B w (L x) v) : ∀ B w v, LfR B w l v → LfR B w (exL Q L) v := fun B w v k => ⟨x, hq, h B w v k⟩
theorem exL_mono {α β : Type} {Q : α → Prop} {L : α → Lf} {R : β → Prop} {M : β → Lf} (h : ∀ x, Q x → ∃ y, R y ∧ ∀ B w v, LfR B w (L x) v → LfR B w (M y) v) : ∀ B w v, LfR B w (exL Q L) v → LfR B w (exL R M) v := fun B w v ⟨x, hq, k⟩ => let ⟨y, hr, hl⟩ := h x hq; ⟨y, hr, hl B w v k⟩

section
variable {P : Program} {ops : Array Oper} {Q : Qs} {l : List Oper} {s : AS} {o : Oper}

theorem slots_cons {ρ : Rho} {B : BS} {w : World} {sl : List (Nat × AV)} {a : Act} {t : Nat} {av : AV} {v : Value} (h : Slots ρ B w sl a) (hv : a.tmps[t]? = some v) (h' : AR ρ B w av v) : Slots ρ B w ((t, av) :: sl) a := by
  intro u av' hu
  rw [lk_cons] at hu
  split at hu
  · rename_i e; cases hu; subst e; exact ⟨v, hv, h'⟩
  · exact h u av' hu

/-- What a slot holds is found out. -/
theorem cEx {α : Type} {Qx : α → Prop} {L : α → Lf} {c : Code} (t : Nat) (h : lk s.sl t = some (.d (.one (exL Qx L)))) (k : ∀ x, Qx x → AW P c Q ⟨s.n, (t, .d (.one (L x))) :: s.sl, s.hp⟩) : AW P c Q s := by
  rintro B0 w0 a w ⟨ρ, hc, hn, hdf, hs⟩
  obtain ⟨v, hv, x, hq, hl⟩ := hs t _ h
  exact k x hq B0 w0 a w ⟨ρ, hc, hn, hdf, slots_cons hs hv hl⟩
theorem mEx {α : Type} {Qx : α → Prop} {L : α → Lf} (t : Nat) (h : lk s.sl t = some (.d (.one (exL Qx L)))) (k : ∀ x, Qx x → AL P ops Q l ⟨s.n, (t, .d (.one (L x))) :: s.sl, s.hp⟩) : AL P ops Q l s := by
  rintro B0 w0 a w ⟨ρ, hc, hn, hdf, hs⟩
  obtain ⟨v, hv, x, hq, hl⟩ := hs t _ h
  exact k x hq B0 w0 a w ⟨ρ, hc, hn, hdf, slots_cons hs hv hl⟩
/-- An argument is found out. -/
theorem DsR.ex {α : Type} {Qx : α → Prop} {L : α → Lf} {B : BS} {w : World} : ∀ {pre post : List DV} {vs : List Value}, DsR B w (pre ++ .one (exL Qx L) :: post) vs → ∃ x, Qx x ∧ DsR B w (pre ++ .one (L x) :: post) vs
  | [], post, _ :: vs, ⟨⟨x, hq, hl⟩, h⟩ => ⟨x, hq, hl, h⟩
  | d :: pre, post, _ :: vs, ⟨h1, h⟩ => let ⟨x, hq, h2⟩ := DsR.ex (pre := pre) h; ⟨x, hq, h1, h2⟩
theorem ACall.ex {α : Type} {Qx : α → Prop} {L : α → Lf} {f : FuncId} {pre post : List DV} {res : AV} (hne : ∃ x, Qx x) (h : ∀ x, Qx x → ACall P f (pre ++ .one (L x) :: post) res) : ACall P f (pre ++ .one (exL Qx L) :: post) res :=
  ⟨let ⟨x, hx⟩ := hne; (h x hx).en, fun B w vs hB hd => let ⟨x, hq, hd'⟩ := DsR.ex hd; (h x hq).go B w vs hB hd'⟩

/-- A row of the frame's own is stored into a variable of its own; its value gets a name. -/
theorem mSo {T : TypeId → Option TI} (hT : TOk P T) (ty id2 id : Nat) {ob2 : AO} (obx : Value → AO) (h1 : lk s.sl ty = some (.own id2)) (h2 : lk s.hp id2 = some ob2) (h : ∀ x, evS T ⟨s.n, (ty, .d (.one (.v x))) :: s.sl, (id2, .is x ob2) :: s.hp⟩ o.op = some (id, obx x))
    (k : ∀ x, AL P ops Q l (AS.put ⟨s.n, s.sl, (id, obx x) :: (id2, .is x ob2) :: s.hp⟩ o.dst .dead)) (hg : gst ops s o = some true := by rfl) (hd : dok o.dst s.n = true := by rfl) : AL P ops Q (o :: l) s := by
  rintro B0 w0 a w ⟨ρ, hc, hn, hdf, hs⟩
  obtain ⟨x, hx, hρ, ag, nn, cap, hsl⟩ := hs ty _ h1
  have hone : x.oneCell' = true := by subst hsl; rfl
  have hc2 : Core ρ B0 w0 w ((id2, .is x ob2) :: s.hp) := ⟨hc.bel, hc.b0, fun j v hj => by
    obtain ⟨ob, q1, q2⟩ := hc.obj j v hj
    by_cases e : id2 = j
    · subst e
      rw [h2] at q1; cases q1
      have : v = x := by rw [hρ] at hj; cases hj; rfl
      exact ⟨.is x ob2, by rw [lk_cons, if_pos rfl], this, q2⟩
    · exact ⟨ob, by rw [lk_cons, if_neg e]; exact q1, q2⟩, hc.dist⟩
  have hs2 : Slots ρ (Bd ρ B0) w ((ty, .d (.one (.v x))) :: s.sl) a := slots_cons hs hx ⟨rfl, hone⟩
  obtain ⟨w', hr, hc', hk⟩ := evS_ok hT (s := ⟨s.n, (ty, .d (.one (.v x))) :: s.sl, (id2, .is x ob2) :: s.hp⟩) hs2 hc2 (h x)
  have hs' : Slots ρ (Bd ρ B0) w' s.sl a := fun t av ht => let ⟨u, q1, q2⟩ := hs t av ht; ⟨u, q1, AR.mv hk (fun _ _ hB => hB) (fun _ _ => rfl) q2⟩
  exact wpl_skip (gst_ok hg hs) hr (k x B0 w0 _ w' (den_put (s := ⟨s.n, s.sl, (id, obx x) :: (id2, .is x ob2) :: s.hp⟩) hc' hn hdf hs' hd trivial))

/-- .. and is found there again. -/
theorem wkLo {s : AS} (t tw id : Nat) {x : Value} {ob : AO} (h1 : lk s.sl t = some (.d (.one (.v x)))) (hw : lk s.sl tw = some (.own id)) (h2 : lk s.hp id = some (.is x ob)) : Wk s ⟨s.n, (t, .own id) :: s.sl, (id, ob) :: s.hp⟩ := by
  rintro B0 w0 a w ⟨ρ, hc, hn, hdf, hs⟩
  obtain ⟨v, hv, e, _⟩ := hs t _ h1
  subst e
  obtain ⟨v', hv', hρ, hsl⟩ := hs tw _ hw
  obtain ⟨ob', q1, q2⟩ := hc.obj id v' hρ
  rw [h2] at q1; cases q1
  obtain ⟨e, q2⟩ := q2
  subst e
  refine ⟨ρ, ⟨hc.bel, hc.b0, fun j u hj => ?_, hc.dist⟩, hn, hdf, slots_cons hs hv ⟨hρ, hsl⟩⟩
  by_cases e : id = j
  · subst e
    rw [hρ] at hj; cases hj
    exact ⟨ob, by rw [lk_cons, if_pos rfl], q2⟩
  · obtain ⟨ob', r1, r2⟩ := hc.obj j u hj
    exact ⟨ob', by rw [lk_cons, if_neg e]; exact r1, r2⟩

/-- A row that lies in a variable's cell is written no more. -/
theorem wkIs {s : AS} (tw id bid : Nat) {x : Value} {T e : TypeId} {sz n : Nat} {el : Nat → Nat → Lf} (pre post : List Lf) (hw : lk s.sl tw = some (.own id)) (h : lk s.hp id = some (.is x (.row e sz n el))) (hb : lk s.hp bid = some (.box T (pre ++ .v x :: post))) (hne : bid ≠ id) :
    Wk s ⟨s.n, fzs id (.d (.one (.row sz n el))) (fun _ => .dead) s.sl, (bid, .box T (pre ++ .row sz n el :: post)) :: dk s.hp id⟩ := by
  rintro B0 w0 a w ⟨ρ, hc, hsz, hdf, hs⟩
  have hK : Keep (Bd ρ B0) w w := ⟨Nat.le_refl _, fun _ _ _ => rfl⟩
  obtain ⟨v, hv, hid, hslc⟩ := hs tw _ hw
  have hrow : v = x ∧ LfR (Bd (less ρ id) B0) w (.row sz n el) v := by
    obtain ⟨ob, o1, o2⟩ := hc.obj id v hid
    rw [h] at o1
    cases o1
    obtain ⟨hvx, xs, ⟨⟨hxl, hown⟩, hbk⟩, hel⟩ := o2
    refine ⟨hvx, ?_⟩
    rcases hown with ⟨rfl, h0⟩ | ⟨g, cap, cur, rfl, hge, hblk, hn, hm, hsz', htk⟩
    · subst h0
      exact ⟨none, 0, rfl, Nat.le_refl _, fun _ => rfl, fun i hi => absurd hi (Nat.not_lt_zero _)⟩
    · refine ⟨some ⟨g, 0, none⟩, cap, rfl, hn, fun h => (by cases h), fun i hi => ⟨g, 0, rfl, hc.lone hid rfl, lt_of_block hblk, fun j hj => ?_⟩⟩
      obtain ⟨x, hx1, hx2⟩ := hel i j hi hj
      refine ⟨x, ?_, LfR.mv hK (fun b _ hb => less_sub b hb) _ hx2⟩
      rw [Nat.zero_add, cell_of_row w g _ cur _ (0, 0) hblk, ← Array.getElem?_toList]
      rw [← htk, List.getElem?_take] at hx1
      split at hx1
      · exact hx1
      · cases hx1
  obtain ⟨rfl, hrow⟩ := hrow
  have hl := hc.less (id := id)
  refine ⟨less ρ id, ⟨hl.bel, hl.b0, fun j u hj => ?_, hl.dist⟩, hsz, hdf, fun t av ht => ?_⟩
  · obtain ⟨ob, q1, q2⟩ := hl.obj j u hj
    by_cases ej : bid = j
    · subst ej
      rw [lk_dk, if_neg (fun e => hne e.symm), hb] at q1
      cases q1
      obtain ⟨g, vs, e1, e2, e3, e4⟩ := q2
      refine ⟨.box T (pre ++ .row sz n el :: post), by rw [lk_cons, if_pos rfl], (?_ : ∃ g vs, u = .pointer (some ⟨g, 0, none⟩) ∧ w0.own g ∧ Blk w g T vs ∧ LsR (Bd (less ρ id) B0) w (pre ++ .row sz n el :: post) vs)⟩
      refine ⟨g, vs, e1, e2, e3, ?_⟩
      clear e1 e2 e3 hb
      revert vs
      induction pre with
      | nil =>
        intro vs e4
        cases vs with
        | nil => exact e4.elim
        | cons c cs => obtain ⟨⟨rfl, _⟩, e5⟩ := e4; exact ⟨hrow, e5⟩
      | cons p pre ih =>
        intro vs e4
        cases vs with
        | nil => exact e4.elim
        | cons c cs => exact ⟨e4.1, ih cs e4.2⟩
    · exact ⟨ob, by rw [lk_cons, if_neg ej]; exact q1, q2⟩
  · obtain ⟨av', h1, rfl⟩ := lk_fzs _ _ _ ht
    obtain ⟨c, h2, h3⟩ := hs t av' h1
    exact ⟨c, h2, h3.fz hid (fun _ => hrow) (fun _ _ _ => trivial)⟩
end
end Go.Proofs.Ytpnoklbijfmoaaa

