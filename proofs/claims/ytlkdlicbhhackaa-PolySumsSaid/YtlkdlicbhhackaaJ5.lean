/-
  PolySums by the machine: copies, comparisons, polynomials in new memory.
-/
import Derived.Test.YtlkdlicbhhackaaJ3
import Derived.Test.YtlkdlicbhhackaaJ4
import Derived.Test.YtlkdlicbhhackaaJ1
import Derived.Test.YtlkdlicbhhackaaJ0
import Derived.OpenShut
import Derived.Deep.Slices
import Derived.ChangeOld
import Derived.ChangeSame
import Derived.Lib.SmallJoins
set_option linter.unusedVariables false
set_option linter.unusedSimpArgs false
namespace Go.Proofs.Ytlkdlicbhhackaa
open Go.RowKit

theorem dgQ_eq {q : Nat → Rat} {e : Nat → Int} {n m : Nat} (h : ∀ i, q i = rc e i) (h1 : ∀ i, n ≤ i → e i = 0) (h2 : ∀ i, m ≤ i → e i = 0) : dg q n = dg e m := by
  obtain rfl : q = rc e := funext h
  exact (dg_cast n).trans (dg_eq h1 h2)
theorem rc_sub (a b : Nat → Int) (j : Nat) : faddQ (rc a) (fsclQ (rc b) (mkR (-1) 1)) j = rc (fsub a b) j := by
  show rc a j + fsclQ (rc b) (mkR (-1) 1) j = _
  rw [rc_scl]
  show ((a j : Int) : Rat) + ((b j * -1 : Int) : Rat) = ((a j - b j : Int) : Rat)
  rw [← Rat.intCast_add]
  congr 1
  omega
theorem rc_neg (a : Nat → Int) (j : Nat) : fsclQ (rc a) (mkR (-1) 1) j = rc (fneg a) j := by
  rw [rc_scl]
  show ((a j * -1 : Int) : Rat) = ((-a j : Int) : Rat)
  congr 1
  omega
def derR (c : Nat → Rat) : Nat → Rat := fun i => c (i + 1) * mkR ((i + 1 : Nat) : Int) 1
theorem derR_z {c : Nat → Rat} {n : Nat} (h : ∀ i, n ≤ i → c i = 0) : ∀ i, n - 1 ≤ i → derR c i = 0 := fun i hi => by unfold derR; rw [h (i + 1) (by omega), Rat.zero_mul]
theorem rc_der (a : Nat → Int) (j : Nat) : derR (rc a) j = rc (fder a) j := rc_scl a ((j + 1 : Nat) : Int) (j + 1)
theorem cmpZ_ne {x y : Int} (h : ¬ x = y) : cmpZ x y ≠ 0 := by unfold cmpZ; (repeat' split) <;> omega
theorem r_false {r : Bool} {p : Prop} (h : r = true ↔ p) (k : ¬ p) : false = r := by cases r with | false => rfl | true => exact absurd (h.1 rfl) k
theorem r_true {r : Bool} {p : Prop} (h : r = true ↔ p) (k : p) : true = r := (h.2 k).symm
set_option maxRecDepth 100000 in
set_option maxHeartbeats 4000000 in
theorem aCopyInt {K : Nat} {s : Bool} {xs : List Nat} (hK : K ≤ 1000000000 := by decide) : ACall Try.prog 49 [.agg [.v (.bool s), lr K xs]] (.d (.agg [.v (.bool s), lr K xs])) := by
  refine acallN hTT 9 [.cell 2 36] Try.func49 rfl rfl rfl rfl rfl ?_
  refine cSeq ?_
  refine cReg ?_
  refine mN hTT (.box 36 ([.v (.bool s), lr K xs])) rfl rfl rfl ?_
  refine mN hTT (.box 36 ([.v (.bool false), .v (.slice none 0 0)])) rfl rfl rfl ?_
  refine mNil ?_
  refine tN ?_
  refine cSeq ?_
  refine cDrawK hTT 6 (by kernel_rfl) (by kernel_rfl) (by kernel_rfl) ?_
  refine .cons (OpS.V (.ptr 1 0) rfl) ?_
  refine .cons (OpS.V (.d (.one (.v (.bool s)))) rfl) ?_
  refine .cons (OpS.V (.ptr 1 1) rfl) ?_
  refine .cons (OpS.V (.d (.one (lr K xs))) rfl) ?_
  refine .cons (OpS.C0 (aCopy (K := K) (xs := xs) (by omega)) rfl rfl rfl) ?_
  refine .cons (OpS.V (.d (.agg ([.v (.bool s), lr K xs]))) rfl) ?_
  refine .nil ?_
  refine mS hTT 2 (.box 36 ([.v (.bool s), lr K xs])) rfl ?_
  refine mNil ?_
  refine tN ?_
  refine cRet ?_
  exact rQ rfl (AV.le.rfl)

set_option maxRecDepth 100000 in
set_option maxHeartbeats 4000000 in
theorem aCopyPoly {K n : Nat} {f : Nat → Bool × List Nat} (hn : n ≤ 1000000 := by decide) (hK : K ≤ 1000000000 := by decide) : ACall Try.prog 7 [.one (arow K n f)] (.d (.one (arow K n f))) := by
  refine acallN hTT 20 [.tmp 2] Try.func7 rfl rfl rfl rfl rfl ?_
  refine cSeq ?_
  refine cReg ?_
  refine mV hTT _ rfl ?_
  refine mNil ?_
  refine tN ?_
  refine cSeq ?_
  refine cReg ?_
  refine mV hTT _ rfl ?_
  refine mNil ?_
  refine tN ?_
  refine cSeq ?_
  refine cSeq ?_
  refine AW.wk (wkNil 3 3 36 2 (fun _ _ => .v undef) rfl rfl) ?_
  refine cReg ?_
  refine mV hTT _ rfl ?_
  refine mV hTT (.d (.one (.v (.int .i64 (n : Int))))) rfl ?_
  refine mV hTT _ rfl ?_
  refine mNil ?_
  refine tN ?_
  refine cBlock ?_
  refine cLoop (ι := Nat) (fun (i : Nat) => ⟨20, [(0, .d (.one (.row 2 n (ael K f)))), (6, .d (.one (.v (.int .i64 (n : Int))))), (7, .d (.one (.v (.int .i64 ((i : Nat) : Int))))), (3, .own 3)], [(3, .row 36 2 i (ael K f))]⟩) (fun (i : Nat) => i ≤ n) (fun (i : Nat) => n - i) 0 (Nat.zero_le _) (wk (sl := [(0, .d (.one (.row 2 n (ael K f)))), (6, .d (.one (.v (.int .i64 (n : Int))))), (7, .d (.one (.v (.int .i64 ((0 : Nat) : Int))))), (3, .own 3)]) (hp := [(3, .row 36 2 0 (ael K f))]) rfl ⟨hs rfl, hs rfl, hs rfl, hs rfl, trivial⟩ ⟨ho' rfl (leo_row0), trivial⟩ rfl) ?_
  rintro i hI
  have hi : i ≤ n := hI
  show AW Try.prog _ _ ⟨20, [(0, .d (.one (.row 2 n (ael K f)))), (6, .d (.one (.v (.int .i64 (n : Int))))), (7, .d (.one (.v (.int .i64 ((i : Nat) : Int))))), (3, .own 3)], [(3, .row 36 2 i (ael K f))]⟩
  refine cSeq ?_
  refine cReg ?_
  refine mV hTT (.d (.one (.v (.bool (decide (((i : Nat) : Int) < (n : Int))))))) rfl ?_
  refine mNil ?_
  refine tN ?_
  refine cSeq ?_
  refine cCond rfl (fun hc1 => ?_) (fun hc1 => ?_)
  · skip
    refine cSkip ?_
    refine tN ?_
    refine cSeq ?_
    refine cBlock ?_
    refine cSeq ?_
    refine cReg ?_
    refine mV hTT _ rfl ?_
    refine mV hTT _ rfl ?_
    refine mNil ?_
    refine tN ?_
    have hin : i < n := by have h0 := of_decide_eq_true hc1; omega
    refine cReg ?_
    refine mV hTT _ rfl ?_
    refine mV hTT _ rfl ?_
    refine mV hTT _ rfl ?_
    refine mV hTT (.d (.one (.at 2 ((ael K f) i)))) (ixR (el := (ael K f)) (z := ((i : Nat) : Int)) (n := n) rfl rfl rfl rfl rfl rfl (by omega) (by omega)) ?_
    refine mV hTT (.d (.agg ([.v (.bool ((f i).1)), lr K ((f i).2)]))) rfl ?_
    refine mC0 (aCopyInt (K := K) (s := (f i).1) (xs := ((f i).2)) (by omega)) rfl rfl rfl ?_
    refine mB hTT (.d (.one (.row 2 1 (fun i' j' => (([.v (.bool ((f i).1)), lr K ((f i).2)])[i' * 2 + j']?).getD (.v undef))))) rfl ?_
    refine mA hTT (id := 3) (n := i) (m := 1) (el := (ael K f)) (el2 := (fun i' j' => (([.v (.bool ((f i).1)), lr K ((f i).2)])[i' * 2 + j']?).getD (.v undef))) rfl rfl rfl (by show (i + 1) * 32 ≤ 140737488355328; omega) (by omega) rfl rfl rfl rfl rfl rfl rfl rfl rfl rfl ?_
    refine mV hTT _ rfl ?_
    refine mNil ?_
    refine bN ?_
    refine tN ?_
    refine cReg ?_
    refine mV hTT (.d (.one (.v (.int .i64 (IntKind.i64.wrap (((i : Nat) : Int) + 1)))))) rfl ?_
    refine mV hTT _ rfl ?_
    refine mNil ?_
    exact ⟨(i + 1), by omega, by omega, wk (sl := [(0, .d (.one (.row 2 n (ael K f)))), (6, .d (.one (.v (.int .i64 (n : Int))))), (7, .d (.one (.v (.int .i64 (((i + 1) : Nat) : Int))))), (3, .own 3)]) (hp := [(3, .row 36 2 (i + 1) (ael K f))]) rfl ⟨hs rfl, hs rfl, hs' rfl (le_int (inc64 (by omega))), hs rfl, trivial⟩ ⟨ho' rfl (app_a rfl (Nat.le_refl _) (Nat.le_refl _)), trivial⟩ rfl⟩
  · skip
    refine cExit ?_
    refine tE ?_
    refine tE ?_
    refine bE ?_
    refine tN ?_
    refine cSeq ?_
    have hie : n = i := by have h0 := of_decide_eq_false hc1; omega
    subst hie
    refine AW.wk (wkRow 3 rfl) ?_
    refine cReg ?_
    refine mV hTT _ rfl ?_
    refine mV hTT _ rfl ?_
    refine mNil ?_
    refine tN ?_
    refine cRet ?_
    exact rQ rfl (AV.le.rfl)

theorem aSameX {K L : Nat} {xs : List Nat} (hK : K ≤ 1000000000 := by decide) (hL : L ≤ 1000000000 := by decide) : ACall Try.prog 87 [.one (lr K xs), .one (lr L xs)] (.d (.one (.v (.bool true)))) := ACall.le (dl DV.same (dl DV.same dl0)) (le_bool (decide_eq_true rfl)) (aSame (by omega) (by omega))
set_option maxRecDepth 100000 in
set_option maxHeartbeats 4000000 in
theorem aSameInt {K L : Nat} {s : Bool} {xs : List Nat} (hK : K ≤ 1000000000 := by decide) (hL : L ≤ 1000000000 := by decide) : ACall Try.prog 45 [.agg [.v (.bool s), lr K xs], .agg [.v (.bool s), lr L xs]] (.d (.one (.v (.bool true)))) := by
  refine acallN hTT 17 [.tmp 4] Try.func45 rfl rfl rfl rfl rfl ?_
  refine cSeq ?_
  refine cReg ?_
  refine mN hTT (.box 36 ([.v (.bool s), lr K xs])) rfl rfl rfl ?_
  refine mN hTT (.box 36 ([.v (.bool s), lr L xs])) rfl rfl rfl ?_
  refine mV hTT _ rfl ?_
  refine mNil ?_
  refine tN ?_
  refine cSeq ?_
  refine cReg ?_
  refine mV hTT (.ptr 2 0) rfl ?_
  refine mV hTT (.d (.one (.v (.bool s)))) rfl ?_
  refine mV hTT (.ptr 3 0) rfl ?_
  refine mV hTT (.d (.one (.v (.bool s)))) rfl ?_
  refine mV hTT (.d (.one (.v (.bool true)))) (evb (beq_self_eq_true _)) ?_
  refine mV hTT _ rfl ?_
  refine mV hTT (.ptr 2 1) rfl ?_
  refine mV hTT (.d (.one (lr K xs))) rfl ?_
  refine mV hTT (.ptr 3 1) rfl ?_
  refine mV hTT (.d (.one (lr L xs))) rfl ?_
  refine mC0 (aSameX (K := K) (L := L) (xs := xs) (by omega) (by omega)) rfl rfl rfl ?_
  refine mV hTT _ rfl ?_
  refine mV hTT _ rfl ?_
  refine mNil ?_
  refine tN ?_
  refine cRet ?_
  exact rQ rfl (AV.le.rfl)

set_option maxRecDepth 100000 in
set_option maxHeartbeats 4000000 in
theorem aSamePolyA {K L n : Nat} {f : Nat → Bool × List Nat} (hn : n ≤ 1000000) (hK : K ≤ 100000000) (hL : L ≤ 100000000) : ACall Try.prog 22 [.one (arow K n f), .one (arow L n f)] (.d (.one (.v (.bool true)))) := by
  refine acallN hTT 27 [.tmp 4] Try.func22 rfl rfl rfl rfl rfl ?_
  refine cSeq ?_
  refine cReg ?_
  refine mV hTT _ rfl ?_
  refine mNil ?_
  refine tN ?_
  refine cSeq ?_
  refine cSeq ?_
  refine cReg ?_
  refine mV hTT _ rfl ?_
  refine mV hTT (.d (.one (.v (.int .i64 (n : Int))))) rfl ?_
  refine mV hTT _ rfl ?_
  refine mV hTT (.d (.one (.v (.int .i64 (n : Int))))) rfl ?_
  refine mV hTT (.d (.one (.v (.bool false)))) (evb (bne_self_eq_false _)) ?_
  refine mNil ?_
  refine tN ?_
  refine cF rfl ?_
  refine cSkip ?_
  refine tN ?_
  refine cSeq ?_
  refine cSeq ?_
  refine cReg ?_
  refine mV hTT _ rfl ?_
  refine mV hTT (.d (.one (.v (.int .i64 (n : Int))))) rfl ?_
  refine mV hTT _ rfl ?_
  refine mNil ?_
  refine tN ?_
  refine cBlock ?_
  refine cLoop (ι := Nat) (fun (i : Nat) => ⟨27, [(0, .d (.one (.row 2 n (ael K f)))), (1, .d (.one (.row 2 n (ael L f)))), (12, .d (.one (.v (.int .i64 (n : Int))))), (13, .d (.one (.v (.int .i64 ((i : Nat) : Int)))))], []⟩) (fun (i : Nat) => i ≤ n) (fun (i : Nat) => n - i) 0 (Nat.zero_le _) (wk (sl := [(0, .d (.one (.row 2 n (ael K f)))), (1, .d (.one (.row 2 n (ael L f)))), (12, .d (.one (.v (.int .i64 (n : Int))))), (13, .d (.one (.v (.int .i64 ((0 : Nat) : Int)))))]) (hp := []) rfl ⟨hs rfl, hs rfl, hs rfl, hs rfl, trivial⟩ trivial rfl) ?_
  rintro i hI
  have hi : i ≤ n := hI
  show AW Try.prog _ _ ⟨27, [(0, .d (.one (.row 2 n (ael K f)))), (1, .d (.one (.row 2 n (ael L f)))), (12, .d (.one (.v (.int .i64 (n : Int))))), (13, .d (.one (.v (.int .i64 ((i : Nat) : Int)))))], []⟩
  refine cSeq ?_
  refine cReg ?_
  refine mV hTT (.d (.one (.v (.bool (decide (((i : Nat) : Int) < (n : Int))))))) rfl ?_
  refine mNil ?_
  refine tN ?_
  refine cSeq ?_
  refine cCond rfl (fun hc1 => ?_) (fun hc1 => ?_)
  · skip
    refine cSkip ?_
    refine tN ?_
    refine cSeq ?_
    refine cBlock ?_
    refine cSeq ?_
    have hin : i < n := by have h0 := of_decide_eq_true hc1; omega
    refine cReg ?_
    refine mV hTT _ rfl ?_
    refine mV hTT _ rfl ?_
    refine mNil ?_
    refine tN ?_
    refine cSeq ?_
    refine cDrawK hTT 10 (by kernel_rfl) (by kernel_rfl) (by kernel_rfl) ?_
    refine .cons (OpS.V _ rfl) ?_
    refine .cons (OpS.V _ rfl) ?_
    refine .cons (OpS.V (.d (.one (.at 2 ((ael K f) i)))) (ixR (el := (ael K f)) (z := ((i : Nat) : Int)) (n := n) rfl rfl rfl rfl rfl rfl (by omega) (by omega))) ?_
    refine .cons (OpS.V (.d (.agg ([.v (.bool ((f i).1)), lr K ((f i).2)]))) rfl) ?_
    refine .cons (OpS.V _ rfl) ?_
    refine .cons (OpS.V _ rfl) ?_
    refine .cons (OpS.V (.d (.one (.at 2 ((ael L f) i)))) (ixR (el := (ael L f)) (z := ((i : Nat) : Int)) (n := n) rfl rfl rfl rfl rfl rfl (by omega) (by omega))) ?_
    refine .cons (OpS.V (.d (.agg ([.v (.bool ((f i).1)), lr L ((f i).2)]))) rfl) ?_
    refine .cons (OpS.C0 (aSameInt (K := K) (L := L) (s := (f i).1) (xs := ((f i).2)) (by omega) (by omega)) rfl rfl rfl) ?_
    refine .cons (OpS.V (.d (.one (.v (.bool false)))) rfl) ?_
    refine .nil ?_
    refine mNil ?_
    refine tN ?_
    refine cF rfl ?_
    refine cSkip ?_
    refine bN ?_
    refine tN ?_
    refine cReg ?_
    refine mV hTT (.d (.one (.v (.int .i64 (IntKind.i64.wrap (((i : Nat) : Int) + 1)))))) rfl ?_
    refine mV hTT _ rfl ?_
    refine mNil ?_
    exact ⟨(i + 1), by omega, by omega, wk (sl := [(0, .d (.one (.row 2 n (ael K f)))), (1, .d (.one (.row 2 n (ael L f)))), (12, .d (.one (.v (.int .i64 (n : Int))))), (13, .d (.one (.v (.int .i64 (((i + 1) : Nat) : Int)))))]) (hp := []) rfl ⟨hs rfl, hs rfl, hs rfl, hs' rfl (le_int (inc64 (by omega))), trivial⟩ trivial rfl⟩
  · skip
    refine cExit ?_
    refine tE ?_
    refine tE ?_
    refine bE ?_
    refine tN ?_
    refine cSeq ?_
    refine cReg ?_
    refine mV hTT _ rfl ?_
    refine mNil ?_
    refine tN ?_
    refine cRet ?_
    exact rQ rfl (AV.le.rfl)

set_option maxRecDepth 100000 in
set_option maxHeartbeats 4000000 in
theorem aPSameB {a b : Lf} {K L n m : Nat} {c d : Nat → Int} (ha : IsP a K n c) (hb : IsP b L m d) {r : Bool} (hr : r = true ↔ ∀ i, c i = d i) (hn : n ≤ 1000000 := by decide) (hm : m ≤ 1000000 := by decide) (hK : K ≤ 1000000000 := by decide) (hL : L ≤ 1000000000 := by decide) : ACall Try.prog 21 [.one a, .one b] (.d (.one (.v (.bool (r))))) := by
  obtain ⟨⟨fa, ha, ea⟩, za⟩ := ha
  obtain ⟨⟨fb, hb, eb⟩, zb⟩ := hb
  refine ACall.le (dl (DV.l ha) (dl (DV.l hb) dl0)) AV.le.rfl ?_
  have hla := dg_le c n
  have hlb := dg_le d m
  refine acallN hTT 31 [.tmp 4] Try.func21 rfl rfl rfl rfl rfl ?_
  refine cSeq ?_
  refine cReg ?_
  refine mV hTT _ rfl ?_
  refine mNil ?_
  refine tN ?_
  refine cSeq ?_
  refine cReg ?_
  refine mV hTT _ rfl ?_
  refine mC0 (aPNorm (⟨⟨fa, fun _ _ _ h => h, ea⟩, za⟩ : IsP (arow K n fa) K n c) (by omega) (by omega)) rfl rfl rfl ?_
  refine mV hTT _ rfl ?_
  refine mC0 (aPNorm (⟨⟨fb, fun _ _ _ h => h, eb⟩, zb⟩ : IsP (arow L m fb) L m d) (by omega) (by omega)) rfl rfl rfl ?_
  refine mV hTT _ rfl ?_
  refine mV hTT _ rfl ?_
  refine mNil ?_
  refine tN ?_
  refine cSeq ?_
  refine cSeq ?_
  by_cases hln : dg c n = dg d m
  · skip
    refine cReg ?_
    refine mV hTT _ rfl ?_
    refine mV hTT (.d (.one (.v (.int .i64 ((dg c n : Nat) : Int))))) rfl ?_
    refine mV hTT _ rfl ?_
    refine mV hTT (.d (.one (.v (.int .i64 ((dg d m : Nat) : Int))))) rfl ?_
    refine mV hTT (.d (.one (.v (.bool false)))) (evb (by rw [hln]; exact bne_self_eq_false _)) ?_
    refine mNil ?_
    refine tN ?_
    refine cF rfl ?_
    refine cSkip ?_
    refine tN ?_
    refine cSeq ?_
    refine cSeq ?_
    refine cReg ?_
    refine mV hTT _ rfl ?_
    refine mV hTT (.d (.one (.v (.int .i64 ((dg c n : Nat) : Int))))) rfl ?_
    refine mV hTT _ rfl ?_
    refine mNil ?_
    refine tN ?_
    refine cBlock ?_
    refine cLoop (ι := Nat) (fun (i : Nat) => ⟨31, [(1, .d (.one (.row 2 (dg d m) (zel L d)))), (16, .d (.one (.row 2 (dg c n) (zel K c)))), (17, .d (.one (.v (.int .i64 ((dg c n : Nat) : Int))))), (18, .d (.one (.v (.int .i64 ((i : Nat) : Int)))))], []⟩) (fun (i : Nat) => i ≤ dg c n ∧ ∀ j, j < i → c j = d j) (fun (i : Nat) => dg c n - i) 0 (⟨Nat.zero_le _, fun j hj => absurd hj (Nat.not_lt_zero _)⟩) (wk (sl := [(1, .d (.one (.row 2 (dg d m) (zel L d)))), (16, .d (.one (.row 2 (dg c n) (zel K c)))), (17, .d (.one (.v (.int .i64 ((dg c n : Nat) : Int))))), (18, .d (.one (.v (.int .i64 ((0 : Nat) : Int)))))]) (hp := []) rfl ⟨hs rfl, hs rfl, hs rfl, hs rfl, trivial⟩ trivial rfl) ?_
    rintro i hI
    obtain ⟨hi, hq⟩ : i ≤ dg c n ∧ ∀ j, j < i → c j = d j := hI
    show AW Try.prog _ _ ⟨31, [(1, .d (.one (.row 2 (dg d m) (zel L d)))), (16, .d (.one (.row 2 (dg c n) (zel K c)))), (17, .d (.one (.v (.int .i64 ((dg c n : Nat) : Int))))), (18, .d (.one (.v (.int .i64 ((i : Nat) : Int)))))], []⟩
    refine cSeq ?_
    refine cReg ?_
    refine mV hTT (.d (.one (.v (.bool (decide (((i : Nat) : Int) < ((dg c n : Nat) : Int))))))) rfl ?_
    refine mNil ?_
    refine tN ?_
    refine cSeq ?_
    refine cCond rfl (fun hc1 => ?_) (fun hc1 => ?_)
    · skip
      refine cSkip ?_
      refine tN ?_
      refine cSeq ?_
      refine cBlock ?_
      refine cSeq ?_
      have hin : i < dg c n := by have h0 := of_decide_eq_true hc1; omega
      by_cases hcd : c i = d i
      · skip
        refine cReg ?_
        refine mV hTT _ rfl ?_
        refine mV hTT (.d (.one (.at 2 ((zel K c) i)))) (ixR (el := (zel K c)) (z := ((i : Nat) : Int)) (n := (dg c n)) rfl rfl rfl rfl rfl rfl (by omega) (by omega)) ?_
        refine mV hTT (.d (.agg (zn K (c i)))) rfl ?_
        refine mN hTT (.box 36 ([.v (.bool false), .v (.slice none 0 0)])) rfl rfl rfl ?_
        refine mV hTT _ rfl ?_
        refine mS hTT 6 (.box 36 (zn K (c i))) rfl ?_
        refine mNil ?_
        refine tN ?_
        refine cSeq ?_
        refine cDrawK hTT 7 (by kernel_rfl) (by kernel_rfl) (by kernel_rfl) ?_
        refine .cons (OpS.V (.d (.agg (zn K (c i)))) rfl) ?_
        refine .cons (OpS.V _ rfl) ?_
        refine .cons (OpS.V _ rfl) ?_
        refine .cons (OpS.V (.d (.one (.at 2 ((zel L d) i)))) (ixR (el := (zel L d)) (z := ((i : Nat) : Int)) (n := (dg d m)) rfl rfl rfl rfl rfl rfl (by omega) (by omega))) ?_
        refine .cons (OpS.V (.d (.agg (zn L (d i)))) rfl) ?_
        refine .cons (OpS.C0 (aCmp (isz K (c i)) (isz L (d i)) (by omega) (by omega)) rfl rfl rfl) ?_
        refine .cons (OpS.V (.d (.one (.v (.bool false)))) (evb (by rw [hcd, show cmpZ (d i) (d i) = 0 from by simp [cmpZ]]; rfl))) ?_
        refine .nil ?_
        refine mNil ?_
        refine tN ?_
        refine cF rfl ?_
        refine cSkip ?_
        refine bN ?_
        refine tN ?_
        refine cReg ?_
        refine mV hTT (.d (.one (.v (.int .i64 (IntKind.i64.wrap (((i : Nat) : Int) + 1)))))) rfl ?_
        refine mV hTT _ rfl ?_
        refine mNil ?_
        exact ⟨(i + 1), ⟨by omega, fun j hj => by by_cases e : j < i; exact hq j e; obtain rfl : j = i := (by omega); exact hcd⟩, by omega, wk (sl := [(1, .d (.one (.row 2 (dg d m) (zel L d)))), (16, .d (.one (.row 2 (dg c n) (zel K c)))), (17, .d (.one (.v (.int .i64 ((dg c n : Nat) : Int))))), (18, .d (.one (.v (.int .i64 (((i + 1) : Nat) : Int)))))]) (hp := []) rfl ⟨hs rfl, hs rfl, hs rfl, hs' rfl (le_int (inc64 (by omega))), trivial⟩ trivial rfl⟩
      · skip
        refine cReg ?_
        refine mV hTT _ rfl ?_
        refine mV hTT (.d (.one (.at 2 ((zel K c) i)))) (ixR (el := (zel K c)) (z := ((i : Nat) : Int)) (n := (dg c n)) rfl rfl rfl rfl rfl rfl (by omega) (by omega)) ?_
        refine mV hTT (.d (.agg (zn K (c i)))) rfl ?_
        refine mN hTT (.box 36 ([.v (.bool false), .v (.slice none 0 0)])) rfl rfl rfl ?_
        refine mV hTT _ rfl ?_
        refine mS hTT 6 (.box 36 (zn K (c i))) rfl ?_
        refine mNil ?_
        refine tN ?_
        refine cSeq ?_
        refine cDrawK hTT 7 (by kernel_rfl) (by kernel_rfl) (by kernel_rfl) ?_
        refine .cons (OpS.V (.d (.agg (zn K (c i)))) rfl) ?_
        refine .cons (OpS.V _ rfl) ?_
        refine .cons (OpS.V _ rfl) ?_
        refine .cons (OpS.V (.d (.one (.at 2 ((zel L d) i)))) (ixR (el := (zel L d)) (z := ((i : Nat) : Int)) (n := (dg d m)) rfl rfl rfl rfl rfl rfl (by omega) (by omega))) ?_
        refine .cons (OpS.V (.d (.agg (zn L (d i)))) rfl) ?_
        refine .cons (OpS.C0 (aCmp (isz K (c i)) (isz L (d i)) (by omega) (by omega)) rfl rfl rfl) ?_
        refine .cons (OpS.V (.d (.one (.v (.bool true)))) (evb (bne_iff_ne.2 (cmpZ_ne hcd)))) ?_
        refine .nil ?_
        refine mNil ?_
        refine tN ?_
        refine cT rfl ?_
        refine cSeq ?_
        refine cReg ?_
        refine mV hTT _ rfl ?_
        refine mNil ?_
        refine tN ?_
        refine cRet ?_
        refine bR ?_
        refine tR ?_
        refine tR ?_
        refine bR ?_
        refine tR ?_
        exact rQ rfl (le_bool (r_false hr fun e => hcd (e i)))
    · skip
      refine cExit ?_
      refine tE ?_
      refine tE ?_
      refine bE ?_
      refine tN ?_
      refine cSeq ?_
      refine cReg ?_
      refine mV hTT _ rfl ?_
      refine mNil ?_
      refine tN ?_
      refine cRet ?_
      exact rQ rfl (le_bool (r_true hr fun j => by have h0 := of_decide_eq_false hc1; by_cases e : j < i; exact hq j e; rw [dg_z za j (by omega), dg_z zb j (by omega)]))
  · skip
    refine cReg ?_
    refine mV hTT _ rfl ?_
    refine mV hTT (.d (.one (.v (.int .i64 ((dg c n : Nat) : Int))))) rfl ?_
    refine mV hTT _ rfl ?_
    refine mV hTT (.d (.one (.v (.int .i64 ((dg d m : Nat) : Int))))) rfl ?_
    refine mV hTT (.d (.one (.v (.bool true)))) (evb (by rw [bne_iff_ne]; omega)) ?_
    refine mNil ?_
    refine tN ?_
    refine cT rfl ?_
    refine cSeq ?_
    refine cReg ?_
    refine mV hTT _ rfl ?_
    refine mNil ?_
    refine tN ?_
    refine cRet ?_
    refine tR ?_
    exact rQ rfl (le_bool (r_false hr fun e => hln (by obtain rfl : c = d := funext e; exact dg_eq za zb)))

end Go.Proofs.Ytlkdlicbhhackaa

/-
  THE ABSTRACT MACHINE, 13: leaves of which something is said that is found out later (exL); own rows that lie in the cells of own variables. No condition; nothing of the program.
-/
set_option linter.unusedVariables false
set_option linter.unusedSimpArgs false
namespace Go.Proofs.Ytlkdlicbhhackaa
open Go.RowKit

/-- One of the leaves L x with Q x. -/
def exL {α : Type} (Q : α → Prop) (L : α → Lf) : Lf := .sm ⟨fun B w v => ∃ x, Q x ∧ LfR B w (L x) v, fun _ _ _ ⟨_, _, h⟩ => h.one, fun _ _ _ _ _ ⟨x, hq, h⟩ hk hB => ⟨x, hq, h.mv hk hB⟩⟩
theorem exL_intro {α : Type} {Q : α → Prop} {L : α → Lf} (x : α) (hq : Q x) : AV.le (.d (.one (L x))) (.d (.one (exL Q L))) := fun _ _ _ _ h => ⟨x, hq, h⟩
theorem exL_le {α : Type} {Q : α → Prop} {L : α → Lf} {l : Lf} (x : α) (hq : Q x) (h : ∀ B w v, LfR B w l v → LfR B w (L x) v) : ∀ B w v, LfR B w l v → LfR B w (exL Q L) v := fun B w v k => ⟨x, hq, h B w v k⟩
theorem exL_mono {α β : Type} {Q : α → Prop} {L : α → Lf} {R : β → Prop} {M : β → Lf} (h : ∀ x, Q x → ∃ y, R y ∧ ∀ B w v, LfR B w (L x) v → LfR B w (M y) v) : ∀ B w v, LfR B w (exL Q L) v → LfR B w (exL R M) v := fun B w v ⟨x, hq, k⟩ => let ⟨y, hr, hl⟩ := h x hq; ⟨y, hr, hl B w v k⟩

section
variable {P : Program} {ops : Array Oper} {Q : Qs} {l : List Oper} {s : AS} {o : Oper}

theorem slots_cons {ρ : Rho} {B : BS} {w : World} {sl : List (Nat × AV)} {a : Act} {t : Nat} {av : AV} {v : Value} (h : Slots ρ B w sl a) (hv : a.tmps[t]? = some v) (h' : AR ρ B w av v) : Slots ρ B w ((t, av) :: sl) a := by
  intro u av' hu
  rw [lk_cons] at hu
  split at hu
  · rename_i e; cases hu; subst e; exact ⟨v, hv, h'⟩
  · exact h u av' hu

/-- What a slot holds is found out. -/
theorem cEx {α : Type} {Qx : α → Prop} {L : α → Lf} {c : Code} (t : Nat) (h : lk s.sl t = some (.d (.one (exL Qx L)))) (k : ∀ x, Qx x → AW P c Q ⟨s.n, (t, .d (.one (L x))) :: s.sl, s.hp⟩) : AW P c Q s := by
  rintro B0 w0 a w ⟨ρ, hc, hn, hdf, hs⟩
  obtain ⟨v, hv, x, hq, hl⟩ := hs t _ h
  exact k x hq B0 w0 a w ⟨ρ, hc, hn, hdf, slots_cons hs hv hl⟩
theorem mEx {α : Type} {Qx : α → Prop} {L : α → Lf} (t : Nat) (h : lk s.sl t = some (.d (.one (exL Qx L)))) (k : ∀ x, Qx x → AL P ops Q l ⟨s.n, (t, .d (.one (L x))) :: s.sl, s.hp⟩) : AL P ops Q l s := by
  rintro B0 w0 a w ⟨ρ, hc, hn, hdf, hs⟩
  obtain ⟨v, hv, x, hq, hl⟩ := hs t _ h
  exact k x hq B0 w0 a w ⟨ρ, hc, hn, hdf, slots_cons hs hv hl⟩
/-- An argument is found out. -/
theorem DsR.ex {α : Type} {Qx : α → Prop} {L : α → Lf} {B : BS} {w : World} : ∀ {pre post : List DV} {vs : List Value}, DsR B w (pre ++ .one (exL Qx L) :: post) vs → ∃ x, Qx x ∧ DsR B w (pre ++ .one (L x) :: post) vs
  | [], post, _ :: vs, ⟨⟨x, hq, hl⟩, h⟩ => ⟨x, hq, hl, h⟩
  | d :: pre, post, _ :: vs, ⟨h1, h⟩ => let ⟨x, hq, h2⟩ := DsR.ex (pre := pre) h; ⟨x, hq, h1, h2⟩
theorem ACall.ex {α : Type} {Qx : α → Prop} {L : α → Lf} {f : FuncId} {pre post : List DV} {res : AV} (hne : ∃ x, Qx x) (h : ∀ x, Qx x → ACall P f (pre ++ .one (L x) :: post) res) : ACall P f (pre ++ .one (exL Qx L) :: post) res :=
  ⟨let ⟨x, hx⟩ := hne; (h x hx).en, fun B w vs hB hd => let ⟨x, hq, hd'⟩ := DsR.ex hd; (h x hq).go B w vs hB hd'⟩

/-- A row of the frame's own is stored into a variable of its own; its value gets a name. -/
theorem mSo {T : TypeId → Option TI} (hT : TOk P T) (ty id2 id : Nat) {ob2 : AO} (obx : Value → AO) (h1 : lk s.sl ty = some (.own id2)) (h2 : lk s.hp id2 = some ob2) (h : ∀ x, evS T ⟨s.n, (ty, .d (.one (.v x))) :: s.sl, (id2, .is x ob2) :: s.hp⟩ o.op = some (id, obx x))
    (k : ∀ x, AL P ops Q l (AS.put ⟨s.n, s.sl, (id, obx x) :: (id2, .is x ob2) :: s.hp⟩ o.dst .dead)) (hg : gst ops s o = some true := by rfl) (hd : dok o.dst s.n = true := by rfl) : AL P ops Q (o :: l) s := by
  rintro B0 w0 a w ⟨ρ, hc, hn, hdf, hs⟩
  obtain ⟨x, hx, hρ, ag, nn, cap, hsl⟩ := hs ty _ h1
  have hone : x.oneCell' = true := by subst hsl; rfl
  have hc2 : Core ρ B0 w0 w ((id2, .is x ob2) :: s.hp) := ⟨hc.bel, hc.b0, fun j v hj => by
    obtain ⟨ob, q1, q2⟩ := hc.obj j v hj
    by_cases e : id2 = j
    · subst e
      rw [h2] at q1; cases q1
      have : v = x := by rw [hρ] at hj; cases hj; rfl
      exact ⟨.is x ob2, by rw [lk_cons, if_pos rfl], this, q2⟩
    · exact ⟨ob, by rw [lk_cons, if_neg e]; exact q1, q2⟩, hc.dist⟩
  have hs2 : Slots ρ (Bd ρ B0) w ((ty, .d (.one (.v x))) :: s.sl) a := slots_cons hs hx ⟨rfl, hone⟩
  obtain ⟨w', hr, hc', hk⟩ := evS_ok hT (s := ⟨s.n, (ty, .d (.one (.v x))) :: s.sl, (id2, .is x ob2) :: s.hp⟩) hs2 hc2 (h x)
  have hs' : Slots ρ (Bd ρ B0) w' s.sl a := fun t av ht => let ⟨u, q1, q2⟩ := hs t av ht; ⟨u, q1, AR.mv hk (fun _ _ hB => hB) (fun _ _ => rfl) q2⟩
  exact wpl_skip (gst_ok hg hs) hr (k x B0 w0 _ w' (den_put (s := ⟨s.n, s.sl, (id, obx x) :: (id2, .is x ob2) :: s.hp⟩) hc' hn hdf hs' hd trivial))

/-- .. and is found there again. -/
theorem wkLo {s : AS} (t tw id : Nat) {x : Value} {ob : AO} (h1 : lk s.sl t = some (.d (.one (.v x)))) (hw : lk s.sl tw = some (.own id)) (h2 : lk s.hp id = some (.is x ob)) : Wk s ⟨s.n, (t, .own id) :: s.sl, (id, ob) :: s.hp⟩ := by
  rintro B0 w0 a w ⟨ρ, hc, hn, hdf, hs⟩
  obtain ⟨v, hv, e, _⟩ := hs t _ h1
  subst e
  obtain ⟨v', hv', hρ, hsl⟩ := hs tw _ hw
  obtain ⟨ob', q1, q2⟩ := hc.obj id v' hρ
  rw [h2] at q1; cases q1
  obtain ⟨e, q2⟩ := q2
  subst e
  refine ⟨ρ, ⟨hc.bel, hc.b0, fun j u hj => ?_, hc.dist⟩, hn, hdf, slots_cons hs hv ⟨hρ, hsl⟩⟩
  by_cases e : id = j
  · subst e
    rw [hρ] at hj; cases hj
    exact ⟨ob, by rw [lk_cons, if_pos rfl], q2⟩
  · obtain ⟨ob', r1, r2⟩ := hc.obj j u hj
    exact ⟨ob', by rw [lk_cons, if_neg e]; exact r1, r2⟩

/-- A row that lies in a variable's cell is written no more. -/
theorem wkIs {s : AS} (tw id bid : Nat) {x : Value} {T e : TypeId} {sz n : Nat} {el : Nat → Nat → Lf} (pre post : List Lf) (hw : lk s.sl tw = some (.own id)) (h : lk s.hp id = some (.is x (.row e sz n el))) (hb : lk s.hp bid = some (.box T (pre ++ .v x :: post))) (hne : bid ≠ id) :
    Wk s ⟨s.n, fzs id (.d (.one (.row sz n el))) (fun _ => .dead) s.sl, (bid, .box T (pre ++ .row sz n el :: post)) :: dk s.hp id⟩ := by
  rintro B0 w0 a w ⟨ρ, hc, hsz, hdf, hs⟩
  have hK : Keep (Bd ρ B0) w w := ⟨Nat.le_refl _, fun _ _ _ => rfl⟩
  obtain ⟨v, hv, hid, hslc⟩ := hs tw _ hw
  have hrow : v = x ∧ LfR (Bd (less ρ id) B0) w (.row sz n el) v := by
    obtain ⟨ob, o1, o2⟩ := hc.obj id v hid
    rw [h] at o1
    cases o1
    obtain ⟨hvx, xs, ⟨hxl, hown⟩, hel⟩ := o2
    refine ⟨hvx, ?_⟩
    rcases hown with ⟨rfl, h0⟩ | ⟨g, cap, cur, rfl, hge, hblk, hn, hm, hsz', htk⟩
    · subst h0
      exact ⟨none, 0, rfl, Nat.le_refl _, fun _ => rfl, fun i hi => absurd hi (Nat.not_lt_zero _)⟩
    · refine ⟨some ⟨g, 0, none⟩, cap, rfl, hn, fun h => (by cases h), fun i hi => ⟨g, 0, rfl, hc.lone hid rfl, lt_of_block hblk, fun j hj => ?_⟩⟩
      obtain ⟨x, hx1, hx2⟩ := hel i j hi hj
      refine ⟨x, ?_, LfR.mv hK (fun b _ hb => less_sub b hb) _ hx2⟩
      rw [Nat.zero_add, cell_of_row w g _ cur _ (0, 0) hblk, ← Array.getElem?_toList]
      rw [← htk, List.getElem?_take] at hx1
      split at hx1
      · exact hx1
      · cases hx1
  obtain ⟨rfl, hrow⟩ := hrow
  have hl := hc.less (id := id)
  refine ⟨less ρ id, ⟨hl.bel, hl.b0, fun j u hj => ?_, hl.dist⟩, hsz, hdf, fun t av ht => ?_⟩
  · obtain ⟨ob, q1, q2⟩ := hl.obj j u hj
    by_cases ej : bid = j
    · subst ej
      rw [lk_dk, if_neg (fun e => hne e.symm), hb] at q1
      cases q1
      obtain ⟨g, vs, e1, e2, e3, e4⟩ := q2
      refine ⟨.box T (pre ++ .row sz n el :: post), by rw [lk_cons, if_pos rfl], (?_ : ∃ g vs, u = .pointer (some ⟨g, 0, none⟩) ∧ w0.heap.size ≤ g ∧ Blk w g T vs ∧ LsR (Bd (less ρ id) B0) w (pre ++ .row sz n el :: post) vs)⟩
      refine ⟨g, vs, e1, e2, e3, ?_⟩
      clear e1 e2 e3 hb
      revert vs
      induction pre with
      | nil =>
        intro vs e4
        cases vs with
        | nil => exact e4.elim
        | cons c cs => obtain ⟨⟨rfl, _⟩, e5⟩ := e4; exact ⟨hrow, e5⟩
      | cons p pre ih =>
        intro vs e4
        cases vs with
        | nil => exact e4.elim
        | cons c cs => exact ⟨e4.1, ih cs e4.2⟩
    · exact ⟨ob, by rw [lk_cons, if_neg ej]; exact q1, q2⟩
  · obtain ⟨av', h1, rfl⟩ := lk_fzs _ _ _ ht
    obtain ⟨c, h2, h3⟩ := hs t av' h1
    exact ⟨c, h2, h3.fz hid (fun _ => hrow) (fun _ _ _ => trivial)⟩
end
end Go.Proofs.Ytlkdlicbhhackaa

/-
  PolySums by the machine: the plain reckoning's rest; polynomials in new memory.
-/
set_option linter.unusedVariables false
set_option linter.unusedSimpArgs false
namespace Go.Proofs.Ytlkdlicbhhackaa
open Go.RowKit

theorem bndNx {s : AS} {y : Operand} {n k : Nat} {kd : IntKind} (h : ints2 s y = some (kd, (k : Int))) : bndV s (some y) n = some k := by unfold bndV; simp only [h]; rw [if_pos (Int.natCast_nonneg k)]; rfl
theorem IsP.le {a b : Lf} {K n : Nat} {c : Nat → Int} (h : ∀ B w v, LfR B w a v → LfR B w b v) (k : IsP b K n c) : IsP a K n c := let ⟨⟨f, h1, h2⟩, h3⟩ := k; ⟨⟨f, fun B w v hv => h1 _ _ _ (h _ _ _ hv), h2⟩, h3⟩
theorem IsQP.le {a b : Lf} {K n : Nat} {c : Nat → Rat} (h : ∀ B w v, LfR B w a v → LfR B w b v) (k : IsQP b K n c) : IsQP a K n c := ⟨fun B w v hv => k.1 _ _ _ (h _ _ _ hv), k.2⟩
theorem rc_neg1 (a : Nat → Int) (j : Nat) : fsclQ (rc a) ((-1 : Int) : Rat) j = rc (fneg a) j := by
  show ((a j : Int) : Rat) * ((-1 : Int) : Rat) = ((-a j : Int) : Rat)
  rw [← Rat.intCast_mul]
  congr 1
  omega
theorem rc_sub1 (a b : Nat → Int) (j : Nat) : faddQ (rc a) (fsclQ (rc b) ((-1 : Int) : Rat)) j = rc (fsub a b) j := by
  show rc a j + fsclQ (rc b) ((-1 : Int) : Rat) j = _
  rw [rc_neg1]
  show ((a j : Int) : Rat) + ((-b j : Int) : Rat) = ((a j - b j : Int) : Rat)
  rw [← Rat.intCast_add]
  congr 1
def derE (c : Nat → Rat) : Nat → Rat := fun i => c (i + 1) * (((i + 1 : Nat) : Int) : Rat)
theorem derE_z {c : Nat → Rat} {n : Nat} (h : ∀ i, n ≤ i → c i = 0) : ∀ i, n - 1 ≤ i → derE c i = 0 := fun i hi => by unfold derE; rw [h (i + 1) (by omega), Rat.zero_mul]
theorem rc_der1 (a : Nat → Int) (j : Nat) : derE (rc a) j = rc (fder a) j := by
  show ((a (j + 1) : Int) : Rat) * (((j + 1 : Nat) : Int) : Rat) = ((fder a j : Int) : Rat)
  rw [← Rat.intCast_mul]
  congr 1
def zelw (j K : Nat) (c : Nat → Int) : Nat → Nat → Lf := fun i q => ((znw j K (c i))[q]?).getD (.v undef)
def prowS (j K n : Nat) (c : Nat → Int) : Lf := rowS j 2 n (zelw j K c)
def prowF (k K n : Nat) (c : Nat → Int) : Lf := exL (fun j => k ≤ j) (fun j => prowS j K n c)
theorem zelw_le {j K : Nat} {c : Nat → Int} (i q : Nat) (hq : q < 2) : ∀ B w v, LfR B w (zelw j K c i q) v → LfR B w (zel K c i q) v := by
  intro B w v h
  match q, hq with
  | 0, _ => exact h
  | 1, _ => exact nl_le _ _ _ h
theorem prowS_le {j K n : Nat} {c : Nat → Int} : ∀ B w v, LfR B w (prowS j K n c) v → LfR B w (prow K n c) v := fun B w v h => row_le (fun i _ q hq => zelw_le i q hq) _ _ _ (rowS_le _ _ _ h)
theorem prowF_le {k K n : Nat} {c : Nat → Int} : ∀ B w v, LfR B w (prowF k K n c) v → LfR B w (prow K n c) v := fun B w v ⟨_, _, h⟩ => prowS_le _ _ _ h
theorem nil_nl {j K : Nat} : ∀ B w v, LfR B w (.v (.slice none 0 0)) v → LfR B w (nl j K 0) v := by
  rintro B w v ⟨rfl, h⟩
  have h0 : LfR B w (ln K 0) (.slice none 0 0) := nil_lr K (fun _ => none) B w _ ⟨rfl, h⟩
  exact ⟨⟨h0.1, none, 0, 0, rfl, Nat.le_refl _, Or.inl rfl, fun x e => by cases e⟩, h0.2⟩
theorem leo_zeroF {e : TypeId} {n j K : Nat} {c : Nat → Int} (h : ∀ i, i < n → c i = 0) : AO.le (.row e 2 n fun _ q => .v ((([Value.bool false, Value.slice none 0 0] : List Value)[q]?).getD undef)) (.row e 2 n (zelw j K c)) := by
  refine leo_row fun i hi q hq B w v hv => ?_
  unfold zelw
  rw [h i hi]
  match q, hq with
  | 0, _ => exact hv
  | 1, _ => exact nil_nl B w v hv
theorem st_zF {e : TypeId} {n i j K : Nat} {c d : Nat → Int} {z : Int} (hz : z = d i) (h : ∀ p, p < n → p ≠ i → c p = d p) : AO.le (.row e 2 n fun p q => if p = i then ((znw j K z)[q]?).getD (.v undef) else zelw j K c p q) (.row e 2 n (zelw j K d)) := by
  refine leo_row fun p hp q hq B w v hv => ?_
  by_cases hpi : p = i
  · subst hpi
    rw [if_pos rfl, hz] at hv
    exact hv
  · rw [if_neg hpi] at hv
    unfold zelw at hv ⊢
    rw [← h p hp hpi]
    exact hv
theorem rowS_cg {j K n : Nat} {c d : Nat → Int} (h : ∀ i, i < n → c i = d i) : ∀ B w v, LfR B w (rowS j 2 n (zelw j K c)) v → LfR B w (prowS j K n d) v := rowS_el fun i q hi _ B w v hv => by unfold zelw at hv ⊢; rw [← h i hi]; exact hv
theorem le_prowS {j K n m : Nat} {c : Nat → Int} (e : n = m) : AV.le (.d (.one (prowS j K n c))) (.d (.one (prowS j K m c))) := by subst e; exact AV.le.rfl
/-- .. spoiled, perhaps. -/
def sel (j : Nat) : Nat → Nat → Lf := fun _ q => match q with
  | 0 => .sm anySm
  | _ + 1 => spl j
theorem prowS_sel {j K n : Nat} {c : Nat → Int} : ∀ B w v, LfR B w (prowS j K n c) v → LfR B w (rowS j 2 n (sel j)) v := rowS_el fun i q _ hq B w v hv => by
  match q, hq with
  | 0, _ => exact hv.one
  | 1, _ => exact nl_spl _ _ _ hv
theorem st_sel {j n : Nat} : StL j (rowS j 2 n (sel j)) := st_rowS (Nat.le_refl _) fun p q _ hq => by
  match q, hq with
  | 0, _ => exact fun _ _ _ _ _ h => h
  | 1, _ => exact st_spl
theorem aPAtF {K n k j : Nat} {f : Nat → Bool × List Nat} : ACall Try.prog 52 [.one (arow K n f), .one (szL j (.v (.int .i64 (k : Int))))] (.d (.agg [.v (.bool (fx n f k).1), szr j K (fx n f k).2])) :=
  ACall.szr (ACall.le (dl DV.same (dl (DV.l szL_le) dl0)) AV.le.rfl aPAt) fun B w vs h => match vs, h with
    | [_, _], ⟨_, h2, _⟩ => h2.1
theorem isz_szrx {k K : Nat} {s : Bool} {xs : List Nat} {z : Int} (h : zv s (val xs) = z) : IsZ [.v (.bool s), szr k K xs] K z := h ▸ isz_szr k K s xs
set_option maxRecDepth 100000 in
set_option maxHeartbeats 4000000 in
theorem aQNeg {a : Lf} {K M n : Nat} {c : Nat → Rat} (ha : IsQP a K n c) (hM : max (K + 65) 64 ≤ M := by decide) (hn : n ≤ 1000000 := by decide) (hMM : M ≤ 10000000 := by decide) : ACall Try.prog 13 [.one a] (.d (.one (qrow M (dg (fsclQ c ((-1 : Int) : Rat)) n) (fsclQ c ((-1 : Int) : Rat))))) := by
  obtain ⟨ha, za⟩ := ha
  refine ACall.le (dl (DV.l ha) dl0) AV.le.rfl ?_
  refine acallN hTT 6 [.tmp 2] Try.func13 rfl rfl rfl rfl rfl ?_
  refine cSeq ?_
  refine cReg ?_
  refine mV hTT _ rfl ?_
  refine mNil ?_
  refine tN ?_
  refine cSeq ?_
  refine cReg ?_
  refine mV hTT _ rfl ?_
  refine mC0 (aROfI (n := (-1)) (by decide) (by decide)) rfl rfl rfl ?_
  refine mC0 (aQScale (isqp (K := K) (c := c) za) (isq 64 (((-1) : Int) : Rat)) (M := (max ((K + 64) + 1) 64)) (by omega) (by omega) (by omega)) rfl rfl rfl ?_
  refine mV hTT _ rfl ?_
  refine mNil ?_
  refine tN ?_
  refine cRet ?_
  exact rQ rfl (le_qrow (by omega) rfl (fun _ _ => rfl))

set_option maxRecDepth 100000 in
set_option maxHeartbeats 4000000 in
theorem aQSub {a b : Lf} {K L M n m : Nat} {c d : Nat → Rat} (ha : IsQP a K n c) (hb : IsQP b L m d) (hM : max K 64 + max (L + 65) 64 + 1 ≤ M := by decide) (hn : max n m ≤ 1000000 := by decide) (hMM : M ≤ 10000000 := by decide) : ACall Try.prog 11 [.one a, .one b] (.d (.one (qrow M (dg (faddQ c (fsclQ d ((-1 : Int) : Rat))) (max n m)) (faddQ c (fsclQ d ((-1 : Int) : Rat)))))) := by
  obtain ⟨ha, za⟩ := ha
  obtain ⟨hb, zb⟩ := hb
  refine ACall.le (dl (DV.l ha) (dl (DV.l hb) dl0)) AV.le.rfl ?_
  have hdl := dg_le (fsclQ d ((-1 : Int) : Rat)) m
  refine acallN hTT 9 [.tmp 4] Try.func11 rfl rfl rfl rfl rfl ?_
  refine cSeq ?_
  refine cReg ?_
  refine mV hTT _ rfl ?_
  refine mNil ?_
  refine tN ?_
  refine cSeq ?_
  refine cReg ?_
  refine mV hTT _ rfl ?_
  refine mV hTT _ rfl ?_
  refine mC0 (aQNeg (isqp (K := L) (c := d) zb) (M := (max (L + 65) 64)) (by omega) (by omega) (by omega)) rfl rfl rfl ?_
  refine mC0 (aQAdd (isqp (K := K) (c := c) za) (isqp (K := (max (L + 65) 64)) (c := (fsclQ d ((-1 : Int) : Rat))) (dg_z (fsclQ_z zb))) (M := (max (((max K 64) + (max (max (L + 65) 64) 64)) + 1) 64)) (by omega) (by omega) (by omega)) rfl rfl rfl ?_
  refine mV hTT _ rfl ?_
  refine mNil ?_
  refine tN ?_
  refine cRet ?_
  exact rQ rfl (le_qrow (by omega) (dg_eq (faddQ_z za (dg_z (fsclQ_z zb))) (faddQ_z za (fsclQ_z zb))) (fun _ _ => rfl))

set_option maxRecDepth 100000 in
set_option maxHeartbeats 4000000 in
theorem aQDer {a : Lf} {K M n : Nat} {c : Nat → Rat} (ha : IsQP a K n c) (hM : max (K + 65) 64 ≤ M := by decide) (hn : n ≤ 1000000 := by decide) (hMM : M ≤ 10000000 := by decide) : ACall Try.prog 18 [.one a] (.d (.one (qrow M (dg (derE c) (n - 1)) (derE c)))) := by
  obtain ⟨ha, za⟩ := ha
  refine ACall.le (dl (DV.l ha) dl0) AV.le.rfl ?_
  refine acallN hTT 23 [.tmp 2] Try.func18 rfl rfl rfl rfl rfl ?_
  refine cSeq ?_
  refine cReg ?_
  refine mV hTT _ rfl ?_
  refine mNil ?_
  refine tN ?_
  refine cSeq ?_
  refine cReg ?_
  refine mV hTT _ rfl ?_
  refine mNil ?_
  refine tN ?_
  refine cSeq ?_
  refine cSeq ?_
  refine AW.wk (wkNil 3 3 68 4 (fun _ _ => .v undef) rfl rfl) ?_
  refine cReg ?_
  refine mV hTT _ rfl ?_
  refine mNil ?_
  refine tN ?_
  refine cBlock ?_
  refine cLoop (ι := Nat) (fun (i : Nat) => ⟨23, [(0, .d (.one (.row 4 n (qel K c)))), (4, .d (.one (.v (.int .i64 ((i + 1 : Nat) : Int))))), (3, .own 3)], [(3, .row 68 4 i (qel M (derE c)))]⟩) (fun (i : Nat) => i ≤ n - 1) (fun (i : Nat) => n - 1 - i) 0 (Nat.zero_le _) (wk (sl := [(0, .d (.one (.row 4 n (qel K c)))), (4, .d (.one (.v (.int .i64 ((0 + 1 : Nat) : Int))))), (3, .own 3)]) (hp := [(3, .row 68 4 0 (qel M (derE c)))]) rfl ⟨hs rfl, hs' rfl (le_int rfl), hs rfl, trivial⟩ ⟨ho' rfl (leo_row0), trivial⟩ rfl) ?_
  rintro i hI
  have hi : i ≤ n - 1 := hI
  show AW Try.prog _ _ ⟨23, [(0, .d (.one (.row 4 n (qel K c)))), (4, .d (.one (.v (.int .i64 ((i + 1 : Nat) : Int))))), (3, .own 3)], [(3, .row 68 4 i (qel M (derE c)))]⟩
  refine cSeq ?_
  refine cSeq ?_
  refine cReg ?_
  refine mV hTT _ rfl ?_
  refine mV hTT _ rfl ?_
  refine mV hTT (.d (.one (.v (.int .i64 (n : Int))))) rfl ?_
  refine mV hTT (.d (.one (.v (.bool (decide (((i + 1 : Nat) : Int) < (n : Int))))))) rfl ?_
  refine mNil ?_
  refine tN ?_
  refine cCond rfl (fun hc1 => ?_) (fun hc1 => ?_)
  · skip
    refine cSkip ?_
    refine tN ?_
    refine cSeq ?_
    refine cBlock ?_
    have hin : i + 1 < n := by have h0 := of_decide_eq_true hc1; omega
    refine cDrawK hTT 9 (by kernel_rfl) (by kernel_rfl) (by kernel_rfl) ?_
    refine .cons (OpS.V _ rfl) ?_
    refine .cons (OpS.V _ rfl) ?_
    refine .cons (OpS.V _ rfl) ?_
    refine .cons (OpS.V (.d (.one (.at 4 ((qel K c) (i + 1))))) (ixR (el := (qel K c)) (z := ((i + 1 : Nat) : Int)) (n := n) rfl rfl rfl rfl rfl rfl (by omega) (by omega))) ?_
    refine .cons (OpS.V (.d (.agg (qn K (c (i + 1))))) rfl) ?_
    refine .cons (OpS.V _ rfl) ?_
    refine .cons (OpS.C0 (aROfI (n := ((i + 1 : Nat) : Int)) (by omega) (by omega)) rfl rfl rfl) ?_
    refine .cons (OpS.C0 (aRMulR (isq K (c (i + 1))) (isq 64 ((((i + 1 : Nat) : Int) : Int) : Rat)) (M := (max (K + 64 + 1) 64)) (by omega) (by omega)) rfl rfl rfl) ?_
    refine .cons (OpS.B _ rfl) ?_
    refine .nil ?_
    refine mA hTT (id := 3) (n := i) (m := 1) (el := (qel M (derE c))) (el2 := (fun i' j' => ((qn (max (K + 64 + 1) 64) ((c (i + 1)) * ((((i + 1 : Nat) : Int) : Int) : Rat)))[i' * 4 + j']?).getD (.v undef))) rfl rfl rfl (by show (i + 1) * 64 ≤ 140737488355328; omega) (by omega) rfl rfl rfl rfl rfl rfl rfl rfl rfl rfl ?_
    refine mV hTT _ rfl ?_
    refine mNil ?_
    refine bN ?_
    refine tN ?_
    refine cReg ?_
    refine mV hTT _ rfl ?_
    refine mV hTT (.d (.one (.v (.int .i64 (IntKind.i64.wrap (((i + 1 : Nat) : Int) + 1)))))) rfl ?_
    refine mV hTT _ rfl ?_
    refine mNil ?_
    exact ⟨(i + 1), by omega, by omega, wk (sl := [(0, .d (.one (.row 4 n (qel K c)))), (4, .d (.one (.v (.int .i64 (((i + 1) + 1 : Nat) : Int))))), (3, .own 3)]) (hp := [(3, .row 68 4 (i + 1) (qel M (derE c)))]) rfl ⟨hs rfl, hs' rfl (le_int (inc64 (by omega))), hs rfl, trivial⟩ ⟨ho' rfl (app_q rfl (Nat.le_refl _) (by omega) rfl (fun _ _ => rfl)), trivial⟩ rfl⟩
  · skip
    refine cExit ?_
    refine tE ?_
    refine tE ?_
    refine bE ?_
    refine tN ?_
    refine cSeq ?_
    have hie : n - 1 = i := by have h0 := of_decide_eq_false hc1; omega
    subst hie
    refine AW.wk (wkRow 3 rfl) ?_
    refine cReg ?_
    refine mV hTT _ rfl ?_
    refine mC0 (aQCut (K := M) (n := (n - 1)) (c := (derE c)) (by omega)) rfl rfl rfl ?_
    refine mV hTT _ rfl ?_
    refine mNil ?_
    refine tN ?_
    refine cRet ?_
    exact rQ rfl (AV.le.rfl)

set_option maxRecDepth 100000 in
set_option maxHeartbeats 4000000 in
theorem aPCutF {j K n : Nat} {c : Nat → Int} (hn : n ≤ 1000000) : ACall Try.prog 63 [.one (prowS j K n c)] (.d (.one (prowS j K (dg c n) c))) := by
  refine acallN hTT 21 [.tmp 2] Try.func63 rfl rfl rfl rfl rfl ?_
  refine cSeq ?_
  refine cReg ?_
  refine mV hTT _ rfl ?_
  refine mNil ?_
  refine tN ?_
  refine cSeq ?_
  refine cReg ?_
  refine mV hTT _ rfl ?_
  refine mView 4 (.d (.one (.row 2 n (zel K c)))) rfl (le_one prowS_le) ?_
  refine mV hTT (.d (.one (.v (.int .i64 (n : Int))))) rfl ?_
  refine mV hTT _ rfl ?_
  refine mNil ?_
  refine tN ?_
  refine cSeq ?_
  refine cBlock ?_
  refine cLoop (ι := Nat) (fun (k : Nat) => ⟨21, [(0, .d (.one (prowS j K n c))), (3, .d (.one (.v (.int .i64 ((k : Nat) : Int)))))], []⟩) (fun (k : Nat) => k ≤ n ∧ dg c n = dg c k) (fun (k : Nat) => k) n (⟨Nat.le_refl _, rfl⟩) (wk (sl := [(0, .d (.one (prowS j K n c))), (3, .d (.one (.v (.int .i64 ((n : Nat) : Int)))))]) (hp := []) rfl ⟨hs rfl, hs rfl, trivial⟩ trivial rfl) ?_
  rintro k hI
  obtain ⟨hkn, hk⟩ : k ≤ n ∧ dg c n = dg c k := hI
  show AW Try.prog _ _ ⟨21, [(0, .d (.one (prowS j K n c))), (3, .d (.one (.v (.int .i64 ((k : Nat) : Int)))))], []⟩
  refine cSeq ?_
  refine cSeq ?_
  by_cases hk0 : k = 0
  · skip
    refine cReg ?_
    refine mV hTT _ rfl ?_
    refine mV hTT (.d (.one (.v (.bool false)))) (evb (decide_eq_false (by omega))) ?_
    refine mV hTT _ rfl ?_
    refine mG rfl rfl ?_
    refine mG rfl rfl ?_
    refine mG rfl rfl ?_
    refine mG rfl rfl ?_
    refine mG rfl rfl ?_
    refine mG rfl rfl ?_
    refine mV hTT _ rfl ?_
    refine mNil ?_
    refine tN ?_
    refine cF rfl ?_
    refine cExit ?_
    refine tE ?_
    refine tE ?_
    refine bE ?_
    refine tN ?_
    refine cSeq ?_
    have hd : k = dg c n := by rw [hk, hk0]; rfl
    refine cReg ?_
    refine mV hTT _ rfl ?_
    refine mV hTT _ rfl ?_
    refine mSlS hTT (te := _) (el := zelw j K c) (n := n) (m := k) rfl rfl rfl rfl rfl (bndNx rfl) hkn ?_
    refine mV hTT _ rfl ?_
    refine mNil ?_
    refine tN ?_
    refine cRet ?_
    exact rQ rfl (le_prowS hd)
  · skip
    refine cReg ?_
    refine mV hTT _ rfl ?_
    refine mV hTT (.d (.one (.v (.bool true)))) (evb (decide_eq_true (by omega))) ?_
    refine mV hTT _ rfl ?_
    refine mV hTT _ rfl ?_
    refine mV hTT _ rfl ?_
    refine mV hTT (.d (.one (.v (.int .i64 ((k - 1 : Nat) : Int))))) (evi ((wr64 (by omega) (by omega)).trans (by omega))) ?_
    refine mView 9 (.d (.one (.row 2 n (zel K c)))) rfl (le_one prowS_le) ?_
    refine mV hTT (.d (.one (.at 2 ((zel K c) (k - 1))))) (ixR (el := (zel K c)) (z := ((k - 1 : Nat) : Int)) (n := n) rfl rfl rfl rfl rfl rfl (by omega) (by omega)) ?_
    refine mV hTT (.d (.agg (zn K (c (k - 1))))) rfl ?_
    refine mC0 (aZero (isn K (c (k - 1)))) rfl rfl rfl ?_
    refine mV hTT _ rfl ?_
    refine mNil ?_
    refine tN ?_
    refine cCond rfl (fun hc1 => ?_) (fun hc1 => ?_)
    · skip
      refine cSkip ?_
      refine tN ?_
      refine cBlock ?_
      have hc0 : c (k - 1) = 0 := of_decide_eq_true hc1
      refine cReg ?_
      refine mV hTT _ rfl ?_
      refine mV hTT (.d (.one (.v (.int .i64 ((k - 1 : Nat) : Int))))) (evi ((wr64 (by omega) (by omega)).trans (by omega))) ?_
      refine mV hTT _ rfl ?_
      refine mNil ?_
      refine bN ?_
      exact ⟨(k - 1), ⟨by omega, dg_down hk hk0 hc0⟩, by omega, wk (sl := [(0, .d (.one (prowS j K n c))), (3, .d (.one (.v (.int .i64 (((k - 1) : Nat) : Int)))))]) (hp := []) rfl ⟨hs rfl, hs rfl, trivial⟩ trivial rfl⟩
    · skip
      refine cExit ?_
      refine tE ?_
      refine tE ?_
      refine bE ?_
      refine tN ?_
      refine cSeq ?_
      have hd : k = dg c n := by rw [hk]; exact (dg_stop (Or.inr fun e => of_decide_eq_false hc1 e)).symm
      refine cReg ?_
      refine mV hTT _ rfl ?_
      refine mV hTT _ rfl ?_
      refine mSlS hTT (te := _) (el := zelw j K c) (n := n) (m := k) rfl rfl rfl rfl rfl (bndNx rfl) hkn ?_
      refine mV hTT _ rfl ?_
      refine mNil ?_
      refine tN ?_
      refine cRet ?_
      exact rQ rfl (le_prowS hd)

set_option maxRecDepth 100000 in
set_option maxHeartbeats 4000000 in
theorem aEachF {f : FuncId} {nc : Nat} {caps : Nat → Lf} {n k K : Nat} {c : Nat → Int} (hf : ∀ i, i < n → ∀ j, ACall Try.prog f (.one (szL j (.v (.int .i64 (i : Int)))) :: capsD caps 0 nc) (.d (.agg (znw j K (c i))))) (hn : n ≤ 1000000 := by decide) : ACall Try.prog 50 [.one (szL k (.v (.int .i64 (n : Int)))), .one (.fn f nc caps)] (.d (.one (prowF k K (dg c n) c))) := by
  refine acallN hTT 23 [.tmp 4] Try.func50 rfl rfl rfl rfl rfl ?_
  refine cSeq ?_
  refine cReg ?_
  refine mV hTT _ rfl ?_
  refine mNil ?_
  refine tN ?_
  refine cSeq ?_
  refine cReg ?_
  refine mV hTT _ rfl ?_
  refine mView 7 (.d (.one (.v (.int .i64 (n : Int))))) rfl (le_one szL_le) ?_
  refine mN hTT (.row 36 2 n (fun _ j => .v ((([Value.bool false, Value.slice none 0 0] : List Value)[j]?).getD undef))) (mkO (zl := (n : Int)) (zc := (n : Int)) (bts := 32) rfl rfl rfl rfl rfl (by omega) (by omega) rfl rfl rfl (by omega) (by omega) rfl) rfl rfl ?_
  refine mV hTT _ rfl ?_
  refine mNil ?_
  refine tN ?_
  refine cSeq ?_
  refine cSeq ?_
  refine cLim (t := 8) (tz := 0) rfl rfl (sza_one szd_szL) (fun j hj => ?_)
  refine cReg ?_
  refine mV hTT _ rfl ?_
  refine mV hTT (.d (.one (.v (.int .i64 (n : Int))))) rfl ?_
  refine mV hTT _ rfl ?_
  refine mNil ?_
  refine tN ?_
  refine cBlock ?_
  refine cLoop (ι := Nat) (fun (i : Nat) => ⟨23, [(0, .d (.one (szL k (.v (.int .i64 (n : Int)))))), (1, .d (.one (.fn f nc caps))), (8, .lim 8 j), (10, .d (.one (.v (.int .i64 (n : Int))))), (11, .d (.one (.v (.int .i64 ((i : Nat) : Int))))), (5, .own 8)], [(8, .row 36 2 n (zelw j K (upd c i)))]⟩) (fun (i : Nat) => i ≤ n) (fun (i : Nat) => n - i) 0 (Nat.zero_le _) (wk (sl := [(0, .d (.one (szL k (.v (.int .i64 (n : Int)))))), (1, .d (.one (.fn f nc caps))), (8, .lim 8 j), (10, .d (.one (.v (.int .i64 (n : Int))))), (11, .d (.one (.v (.int .i64 ((0 : Nat) : Int))))), (5, .own 8)]) (hp := [(8, .row 36 2 n (zelw j K (upd c 0)))]) rfl ⟨hs rfl, hs rfl, hs rfl, hs rfl, hs rfl, hs rfl, trivial⟩ ⟨ho' rfl (leo_zeroF (fun i _ => if_neg (Nat.not_lt_zero _))), trivial⟩ rfl) ?_
  rintro i hI
  have hi : i ≤ n := hI
  show AW Try.prog _ _ ⟨23, [(0, .d (.one (szL k (.v (.int .i64 (n : Int)))))), (1, .d (.one (.fn f nc caps))), (8, .lim 8 j), (10, .d (.one (.v (.int .i64 (n : Int))))), (11, .d (.one (.v (.int .i64 ((i : Nat) : Int))))), (5, .own 8)], [(8, .row 36 2 n (zelw j K (upd c i)))]⟩
  refine cSeq ?_
  refine cReg ?_
  refine mV hTT (.d (.one (.v (.bool (decide (((i : Nat) : Int) < (n : Int))))))) rfl ?_
  refine mNil ?_
  refine tN ?_
  refine cSeq ?_
  refine cCond rfl (fun hc1 => ?_) (fun hc1 => ?_)
  · skip
    refine cSkip ?_
    refine tN ?_
    refine cSeq ?_
    refine cBlock ?_
    refine cSeq ?_
    refine cReg ?_
    refine mV hTT _ rfl ?_
    refine mV hTT _ rfl ?_
    refine mNil ?_
    refine tN ?_
    have hin : i < n := by have h0 := of_decide_eq_true hc1; omega
    refine cReg ?_
    refine mV hTT _ rfl ?_
    refine mV hTT _ rfl ?_
    refine mV hTT _ rfl ?_
    refine mV hTT _ rfl ?_
    refine AL.wk (wkSz (j := j) (t := 17) (tl := 8) rfl rfl sza_lim) ?_
    refine mC (hf i hin j) rfl rfl rfl ?_
    refine mV hTT (.eptr 8 2 i 0) (ixO (z := ((i : Nat) : Int)) (n := n) rfl rfl rfl rfl rfl rfl rfl (by omega) (by omega)) ?_
    refine mS hTT 8 (.row 36 2 n (fun p' q' => if p' = i then ((znw j K (c i))[q']?).getD (.v undef) else (zelw j K (upd c i)) p' q')) rfl ?_
    refine mNil ?_
    refine bN ?_
    refine tN ?_
    refine cReg ?_
    refine mV hTT (.d (.one (.v (.int .i64 (IntKind.i64.wrap (((i : Nat) : Int) + 1)))))) rfl ?_
    refine mV hTT _ rfl ?_
    refine mNil ?_
    exact ⟨(i + 1), by omega, by omega, wk (sl := [(0, .d (.one (szL k (.v (.int .i64 (n : Int)))))), (1, .d (.one (.fn f nc caps))), (8, .lim 8 j), (10, .d (.one (.v (.int .i64 (n : Int))))), (11, .d (.one (.v (.int .i64 (((i + 1) : Nat) : Int))))), (5, .own 8)]) (hp := [(8, .row 36 2 n (zelw j K (upd c (i + 1))))]) rfl ⟨hs rfl, hs rfl, hs rfl, hs rfl, hs' rfl (le_int (inc64 (by omega))), hs rfl, trivial⟩ ⟨ho' rfl (st_zF upd_self (fun p _ hp => upd_ne hp)), trivial⟩ rfl⟩
  · skip
    refine cExit ?_
    refine tE ?_
    refine tE ?_
    refine bE ?_
    refine tN ?_
    refine cSeq ?_
    have hie : n = i := by have h0 := of_decide_eq_false hc1; omega
    subst hie
    refine AW.wk (wkRowS (tl := 8) rfl rfl) ?_
    refine cView 5 (.d (.one (prowS j K n c))) rfl (le_one (rowS_cg (fun i hi => if_pos hi))) ?_
    refine cReg ?_
    refine mV hTT _ rfl ?_
    refine mC0 (aPCutF (j := j) (K := K) (n := n) (c := c) (by omega)) rfl rfl rfl ?_
    refine mV hTT _ rfl ?_
    refine mNil ?_
    refine tN ?_
    refine cRet ?_
    exact rQ rfl (exL_intro (Q := fun j => k ≤ j) (L := fun j => prowS j K (dg c n) c) j hj)

end Go.Proofs.Ytlkdlicbhhackaa

/-
  PolySums by the machine: sum and normal form in new memory; the law.
-/
set_option linter.unusedVariables false
set_option linter.unusedSimpArgs false
namespace Go.Proofs.Ytlkdlicbhhackaa
open Go.RowKit

theorem leo_sz {t : TypeId} {k : Nat} {l : Lf} : AO.le (.box t [szL k l]) (.box t [l]) := leo_box fun B w cs h => match cs, h with | [_], ⟨h1, h2⟩ => ⟨szL_le _ _ _ h1, h2⟩
theorem DV.ls {k : Nat} {a b : Lf} (h : ∀ B w v, LfR B w a v → LfR B w b v) (hs : SzD k (.one a)) : ∀ B w v, DR B w (.one a) v → DR B w (.one (szL k b)) v := fun B w v hv => ⟨hs B w v hv, h _ _ _ hv⟩
theorem wkSzA {s : AS} {j t tl K : Nat} {b : Bool} {xs : List Nat} {avl : AV} (h : lk s.sl t = some (.d (.agg [.v (.bool b), lr K xs]))) (hl : lk s.sl tl = some avl) (hk : SzA j avl) : Wk s ⟨s.n, (t, .d (.agg [.v (.bool b), szr j K xs])) :: s.sl, s.hp⟩ := by
  rintro B0 w0 a w ⟨ρ, hc, hn, hdf, hs⟩
  obtain ⟨v, hv, cs, e, hvl⟩ := hs t _ h
  obtain ⟨u, _, hu⟩ := hs tl _ hl
  refine ⟨ρ, hc, hn, hdf, slots_cs hs hv ⟨cs, e, ?_⟩⟩
  match cs, hvl with
  | [_, _], ⟨h1, h2, h3⟩ => exact ⟨h1, szr_in (hk _ _ _ _ hu) h2, h3⟩
set_option maxRecDepth 100000 in
set_option maxHeartbeats 4000000 in
theorem aPAdd1F {K L M n m k j : Nat} {fa fb : Nat → Bool × List Nat} {c d : Nat → Int} (ea : ∀ i, i < n → fzv fa i = c i) (za : ∀ i, n ≤ i → c i = 0) (eb : ∀ i, i < m → fzv fb i = d i) (zb : ∀ i, m ≤ i → d i = 0) (hM : max K L + 1 ≤ M) (hMM : M ≤ 1000000000) : ACall Try.prog 51 [.one (szL j (.v (.int .i64 (k : Int)))), .one (.at 1 (fun q => (([.row 2 n (ael K fa)] : List Lf)[0 + q]?).getD (.v undef))), .one (.at 1 (fun q => (([.row 2 m (ael L fb)] : List Lf)[0 + q]?).getD (.v undef)))] (.d (.agg (znw j M (fadd c d k)))) := by
  refine acallN hTT 12 [.cell 4 36] Try.func51 rfl rfl rfl rfl rfl ?_
  refine cSeq ?_
  refine cReg ?_
  refine mN hTT (.box 36 ([.v (.bool false), .v (.slice none 0 0)])) rfl rfl rfl ?_
  refine mNil ?_
  refine tN ?_
  refine cSeq ?_
  refine cDrawK hTT 7 (by kernel_rfl) (by kernel_rfl) (by kernel_rfl) ?_
  refine .cons (OpS.V (.d (.one (.row 2 n (ael K fa)))) rfl) ?_
  refine .cons (OpS.V _ rfl) ?_
  refine .cons (OpS.C0 (aPAtF (K := K) (n := n) (f := fa) (k := k) (j := j)) rfl rfl rfl) ?_
  refine .cons (OpS.V (.d (.one (.row 2 m (ael L fb)))) rfl) ?_
  refine .cons (OpS.V _ rfl) ?_
  refine .cons (OpS.C0 (aPAtF (K := L) (n := m) (f := fb) (k := k) (j := j)) rfl rfl rfl) ?_
  refine .cons (OpS.C0 (aAddF (k := j) (isz_szrx (k := j) (K := K) (s := (fx n fa k).1) (xs := (fx n fa k).2) (fx_z ea za)) (isz_szrx (k := j) (K := L) (s := (fx m fb k).1) (xs := (fx m fb k).2) (fx_z eb zb)) (szd_cell (pre := [_]) szd_szr) (M := (max K L + 1)) (by omega) (by omega) (by omega)) rfl rfl rfl) ?_
  refine .nil ?_
  refine mS hTT 4 (.box 36 (znw j (max K L + 1) ((c k) + (d k)))) rfl ?_
  refine mNil ?_
  refine tN ?_
  refine cRet ?_
  exact rQ rfl (le_znw hM rfl)

set_option maxRecDepth 100000 in
set_option maxHeartbeats 4000000 in
theorem aPAddF {a b : Lf} {k K L M n m : Nat} {c d : Nat → Int} (ha : IsP a K n c) (hb : IsP b L m d) (hsz : SzD k (.one a)) (hM : max K L + 1 ≤ M := by decide) (hn : max n m ≤ 1000000 := by decide) (hMM : M ≤ 1000000000 := by decide) : ACall Try.prog 8 [.one a, .one b] (.d (.one (prowF k M (dg (fadd c d) (max n m)) (fadd c d)))) := by
  obtain ⟨⟨fa, ha, ea⟩, za⟩ := ha
  obtain ⟨⟨fb, hb, eb⟩, zb⟩ := hb
  refine ACall.le (dl (DV.ls ha hsz) (dl (DV.l hb) dl0)) AV.le.rfl ?_
  refine acallN hTT 12 [.tmp 4] Try.func8 rfl rfl rfl rfl rfl ?_
  refine cSeq ?_
  refine cReg ?_
  refine mN hTT (.box 23 ([szL k (arow K n fa)])) rfl rfl rfl ?_
  refine mN hTT (.box 23 ([.row 2 m (ael L fb)])) rfl rfl rfl ?_
  refine mV hTT _ rfl ?_
  refine mNil ?_
  refine tN ?_
  refine cSeq ?_
  refine AW.wk (wk (sl := [(0, .d (.one (szL k (arow K n fa)))), (1, .d (.one (.row 2 m (ael L fb)))), (2, .ptr 2 0), (3, .ptr 3 0), (4, .d (.one (.v (.slice none 0 0))))]) (hp := [(2, .box 23 ([.row 2 n (ael K fa)])), (3, .box 23 ([.row 2 m (ael L fb)]))]) rfl ⟨hs rfl, hs rfl, hs rfl, hs rfl, hs rfl, trivial⟩ ⟨ho' rfl (leo_sz), ho rfl, trivial⟩ rfl) ?_
  refine AW.wk (wkBox 2 rfl) ?_
  refine AW.wk (wkBox 3 rfl) ?_
  refine cReg ?_
  refine mV hTT (.d (.one (.row 2 n (ael K fa)))) rfl ?_
  refine mV hTT (.d (.one (.v (.int .i64 (n : Int))))) rfl ?_
  refine mV hTT (.d (.one (.row 2 m (ael L fb)))) rfl ?_
  refine mV hTT (.d (.one (.v (.int .i64 (m : Int))))) rfl ?_
  refine mV hTT (.d (.one (.v (.int .i64 ((max n m : Nat) : Int))))) (evi (maxNN n m)) ?_
  refine mV hTT _ rfl ?_
  refine AL.wk (wkSz (j := k) (t := 9) (tl := 0) rfl rfl (sza_one szd_szL)) ?_
  refine mC0 (aEachF (k := k) (n := (max n m)) (K := M) (c := (fadd c d)) (fun i hi j => aPAdd1F ea za eb zb hM hMM) (by omega)) rfl rfl rfl ?_
  refine mV hTT _ rfl ?_
  refine mNil ?_
  refine tN ?_
  refine cRet ?_
  exact rQ rfl (AV.le.rfl)

set_option maxRecDepth 100000 in
set_option maxHeartbeats 4000000 in
theorem aPNormF {a : Lf} {k K n : Nat} {c : Nat → Int} (ha : IsP a K n c) (hsz : SzD k (.one a)) (hn : n ≤ 1000000 := by decide) (hK : K ≤ 1000000000 := by decide) : ACall Try.prog 17 [.one a] (.d (.one (prowF k K (dg c n) c))) := by
  obtain ⟨⟨fa, ha, ea⟩, za⟩ := ha
  refine ACall.le (dl (DV.ls ha hsz) dl0) AV.le.rfl ?_
  refine acallN hTT 24 [.tmp 2] Try.func17 rfl rfl rfl rfl rfl ?_
  refine cSeq ?_
  refine cReg ?_
  refine mV hTT _ rfl ?_
  refine mNil ?_
  refine tN ?_
  refine cSeq ?_
  refine cReg ?_
  refine mV hTT _ rfl ?_
  refine mView 6 (.d (.one (.row 2 n (ael K fa)))) rfl (le_one szL_le) ?_
  refine mV hTT (.d (.one (.v (.int .i64 (n : Int))))) rfl ?_
  refine mN hTT (.row 36 2 n (fun _ j => .v ((([Value.bool false, Value.slice none 0 0] : List Value)[j]?).getD undef))) (mkO (zl := (n : Int)) (zc := (n : Int)) (bts := 32) rfl rfl rfl rfl rfl (by omega) (by omega) rfl rfl rfl (by omega) (by omega) rfl) rfl rfl ?_
  refine mV hTT _ rfl ?_
  refine mNil ?_
  refine tN ?_
  refine cSeq ?_
  refine cSeq ?_
  refine cLim (t := 8) (tz := 0) rfl rfl (sza_one szd_szL) (fun j hj => ?_)
  refine cReg ?_
  refine mV hTT _ rfl ?_
  refine mView 9 (.d (.one (.row 2 n (ael K fa)))) rfl (le_one szL_le) ?_
  refine mV hTT (.d (.one (.v (.int .i64 (n : Int))))) rfl ?_
  refine mV hTT _ rfl ?_
  refine mNil ?_
  refine tN ?_
  refine cBlock ?_
  refine cLoop (ι := Nat) (fun (i : Nat) => ⟨24, [(0, .d (.one (szL k (arow K n fa)))), (8, .lim 8 j), (9, .d (.one (.row 2 n (ael K fa)))), (10, .d (.one (.v (.int .i64 (n : Int))))), (11, .d (.one (.v (.int .i64 ((i : Nat) : Int))))), (3, .own 8)], [(8, .row 36 2 n (zelw j K (upd c i)))]⟩) (fun (i : Nat) => i ≤ n) (fun (i : Nat) => n - i) 0 (Nat.zero_le _) (wk (sl := [(0, .d (.one (szL k (arow K n fa)))), (8, .lim 8 j), (9, .d (.one (.row 2 n (ael K fa)))), (10, .d (.one (.v (.int .i64 (n : Int))))), (11, .d (.one (.v (.int .i64 ((0 : Nat) : Int))))), (3, .own 8)]) (hp := [(8, .row 36 2 n (zelw j K (upd c 0)))]) rfl ⟨hs rfl, hs rfl, hs rfl, hs rfl, hs rfl, hs rfl, trivial⟩ ⟨ho' rfl (leo_zeroF (fun i _ => if_neg (Nat.not_lt_zero _))), trivial⟩ rfl) ?_
  rintro i hI
  have hi : i ≤ n := hI
  show AW Try.prog _ _ ⟨24, [(0, .d (.one (szL k (arow K n fa)))), (8, .lim 8 j), (9, .d (.one (.row 2 n (ael K fa)))), (10, .d (.one (.v (.int .i64 (n : Int))))), (11, .d (.one (.v (.int .i64 ((i : Nat) : Int))))), (3, .own 8)], [(8, .row 36 2 n (zelw j K (upd c i)))]⟩
  refine cSeq ?_
  refine cReg ?_
  refine mV hTT (.d (.one (.v (.bool (decide (((i : Nat) : Int) < (n : Int))))))) rfl ?_
  refine mNil ?_
  refine tN ?_
  refine cSeq ?_
  refine cCond rfl (fun hc1 => ?_) (fun hc1 => ?_)
  · skip
    refine cSkip ?_
    refine tN ?_
    refine cSeq ?_
    refine cBlock ?_
    refine cSeq ?_
    have hin : i < n := by have h0 := of_decide_eq_true hc1; omega
    refine cReg ?_
    refine mV hTT _ rfl ?_
    refine mV hTT (.d (.one (.at 2 ((ael K fa) i)))) (ixR (el := (ael K fa)) (z := ((i : Nat) : Int)) (n := n) rfl rfl rfl rfl rfl rfl (by omega) (by omega)) ?_
    refine mV hTT (.d (.agg ([.v (.bool ((fa i).1)), lr K ((fa i).2)]))) rfl ?_
    refine mN hTT (.box 36 ([.v (.bool false), .v (.slice none 0 0)])) rfl rfl rfl ?_
    refine mV hTT _ rfl ?_
    refine mS hTT 5 (.box 36 ([.v (.bool ((fa i).1)), lr K ((fa i).2)])) rfl ?_
    refine mNil ?_
    refine tN ?_
    refine cReg ?_
    refine mV hTT _ rfl ?_
    refine mV hTT _ rfl ?_
    refine mV hTT (.d (.agg ([.v (.bool ((fa i).1)), lr K ((fa i).2)]))) rfl ?_
    refine AL.wk (wkSzA (j := j) (t := 18) (tl := 8) rfl rfl sza_lim) ?_
    refine mC0 (aNormF (k := j) (isz_szrx (k := j) (K := K) (s := (fa i).1) (xs := (fa i).2) (ea i hin)) (szd_cell (pre := [_]) szd_szr) (by omega)) rfl rfl rfl ?_
    refine mV hTT (.eptr 8 2 i 0) (ixO (z := ((i : Nat) : Int)) (n := n) rfl rfl rfl rfl rfl rfl rfl (by omega) (by omega)) ?_
    refine mS hTT 8 (.row 36 2 n (fun p' q' => if p' = i then ((znw j K (c i))[q']?).getD (.v undef) else (zelw j K (upd c i)) p' q')) rfl ?_
    refine mNil ?_
    refine bN ?_
    refine tN ?_
    refine cReg ?_
    refine mV hTT (.d (.one (.v (.int .i64 (IntKind.i64.wrap (((i : Nat) : Int) + 1)))))) rfl ?_
    refine mV hTT _ rfl ?_
    refine mNil ?_
    exact ⟨(i + 1), by omega, by omega, wk (sl := [(0, .d (.one (szL k (arow K n fa)))), (8, .lim 8 j), (9, .d (.one (.row 2 n (ael K fa)))), (10, .d (.one (.v (.int .i64 (n : Int))))), (11, .d (.one (.v (.int .i64 (((i + 1) : Nat) : Int))))), (3, .own 8)]) (hp := [(8, .row 36 2 n (zelw j K (upd c (i + 1))))]) rfl ⟨hs rfl, hs rfl, hs rfl, hs rfl, hs' rfl (le_int (inc64 (by omega))), hs rfl, trivial⟩ ⟨ho' rfl (st_zF upd_self (fun p _ hp => upd_ne hp)), trivial⟩ rfl⟩
  · skip
    refine cExit ?_
    refine tE ?_
    refine tE ?_
    refine bE ?_
    refine tN ?_
    refine cSeq ?_
    have hie : n = i := by have h0 := of_decide_eq_false hc1; omega
    subst hie
    refine AW.wk (wkRowS (tl := 8) rfl rfl) ?_
    refine cView 3 (.d (.one (prowS j K n c))) rfl (le_one (rowS_cg (fun i hi => if_pos hi))) ?_
    refine cReg ?_
    refine mV hTT _ rfl ?_
    refine mC0 (aPCutF (j := j) (K := K) (n := n) (c := c) (by omega)) rfl rfl rfl ?_
    refine mV hTT _ rfl ?_
    refine mNil ?_
    refine tN ?_
    refine cRet ?_
    exact rQ rfl (exL_intro (Q := fun j => k ≤ j) (L := fun j => prowS j K (dg c n) c) j hj)

end Go.Proofs.Ytlkdlicbhhackaa

/-
  PolySums by the machine: the law.
-/
set_option linter.unusedVariables false
set_option linter.unusedSimpArgs false
namespace Go.Proofs.Ytlkdlicbhhackaa
open Go.RowKit

theorem sub_len {c d : Nat → Int} {m : Nat} (hz : ∀ i, m ≤ i → fsub c d i = 0) : dg (faddQ (rc c) (fsclQ (rc d) ((-1 : Int) : Rat))) m = 0 ↔ ∀ i, c i = d i := by
  rw [dgQ_eq (rc_sub1 c d) hz hz]
  constructor
  · intro h i
    have : c i - d i = 0 := dg_all hz h i
    omega
  · intro h
    exact dg_zero (fun i => by show c i - d i = 0; rw [h i]; omega) m
theorem cExK {P : Program} {Q : Qs} {s : AS} {k : Nat} {α : Type} {Qx : α → Prop} {L : α → Lf} {c : Code} (t : Nat) (h : lk s.sl t = some (.d (.one (exL Qx L)))) (q : ∀ x, Qx x → AWk k P c Q ⟨s.n, (t, .d (.one (L x))) :: s.sl, s.hp⟩) : AWk k P c Q s := by
  rintro B0 w0 a w hk ⟨ρ, hc, hn, hdf, hs⟩
  obtain ⟨v, hv, x, hq, hl⟩ := hs t _ h
  exact q x hq B0 w0 a w hk ⟨ρ, hc, hn, hdf, slots_cons hs hv hl⟩
set_option maxRecDepth 100000 in
set_option maxHeartbeats 4000000 in
theorem aPolySums {K L na nb : Nat} {fa fb : Nat → Bool × List Nat} (hK : K ≤ 9223372036854775807) (hL : L ≤ 9223372036854775807) : ACall Try.prog 3 [.one (arow K na fa), .one (arow L nb fb)] (.d (.one (.v (.bool true)))) := by
  refine acallN hTT 132 [.tmp 4] Try.func3 rfl rfl rfl rfl rfl ?_
  refine cSeq ?_
  refine cReg ?_
  refine mV hTT _ rfl ?_
  refine mNil ?_
  refine tN ?_
  refine cSeq ?_
  refine cReg ?_
  refine mV hTT _ rfl ?_
  refine mC0 (aCut (K := K) (n := na) (m := 10) (k := 4) (f := fa) (M := 64) (by decide) (by decide) (by decide) (by omega)) rfl rfl rfl ?_
  refine mV hTT _ rfl ?_
  refine mV hTT _ rfl ?_
  refine mV hTT _ rfl ?_
  refine mV hTT _ rfl ?_
  refine mV hTT _ rfl ?_
  refine mNil ?_
  refine tN ?_
  refine cSeq ?_
  refine cReg ?_
  refine mV hTT _ rfl ?_
  refine mC0 (aCut (K := L) (n := nb) (m := 10) (k := 4) (f := fb) (M := 64) (by decide) (by decide) (by decide) (by omega)) rfl rfl rfl ?_
  refine mV hTT _ rfl ?_
  refine mV hTT _ rfl ?_
  refine mV hTT _ rfl ?_
  refine mV hTT _ rfl ?_
  refine mV hTT _ rfl ?_
  refine mNil ?_
  refine tN ?_
  refine cSeq ?_
  refine cReg ?_
  refine mV hTT _ rfl ?_
  refine mC0 (aCopyPoly (K := 4) (n := (min na 10)) (f := (cutf 4 fa)) (by omega) (by decide)) rfl rfl rfl ?_
  refine mV hTT _ rfl ?_
  refine mC0 (aCopyPoly (K := 4) (n := (min nb 10)) (f := (cutf 4 fb)) (by omega) (by decide)) rfl rfl rfl ?_
  refine mV hTT _ rfl ?_
  refine mV hTT _ rfl ?_
  refine mNil ?_
  refine tN ?_
  have dC := dg_le (cfz (min na 10) (cutf 4 fa)) (min na 10)
  have dD := dg_le (cfz (min nb 10) (cutf 4 fb)) (min nb 10)
  have dS := dg_le (fadd (cfz (min na 10) (cutf 4 fa)) (cfz (min nb 10) (cutf 4 fb))) (max (min na 10) (min nb 10))
  refine AW.wk (wk (sl := [(0, .d (.one (.row 2 (min na 10) (ael 4 (cutf 4 fa))))), (1, .d (.one (.row 2 (min nb 10) (ael 4 (cutf 4 fb))))), (5, .d (.one (.row 4 (dg (cfz (min na 10) (cutf 4 fa)) (min na 10)) (qel 64 (rc (cfz (min na 10) (cutf 4 fa))))))), (6, .d (.one (.row 4 (dg (cfz (min nb 10) (cutf 4 fb)) (min nb 10)) (qel 64 (rc (cfz (min nb 10) (cutf 4 fb))))))), (7, .d (.one (.row 2 (min na 10) (ael 4 (cutf 4 fa))))), (8, .d (.one (.row 2 (min nb 10) (ael 4 (cutf 4 fb)))))]) (hp := []) rfl ⟨hs rfl, hs rfl, hs rfl, hs rfl, hs rfl, hs rfl, trivial⟩ trivial rfl) ?_
  refine cOld (fun kk => [(0, .d (.one (old kk (.row 2 (min na 10) (ael 4 (cutf 4 fa)))))), (1, .d (.one (old kk (.row 2 (min nb 10) (ael 4 (cutf 4 fb)))))), (5, .d (.one (old kk (.row 4 (dg (cfz (min na 10) (cutf 4 fa)) (min na 10)) (qel 64 (rc (cfz (min na 10) (cutf 4 fa)))))))), (6, .d (.one (old kk (.row 4 (dg (cfz (min nb 10) (cutf 4 fb)) (min nb 10)) (qel 64 (rc (cfz (min nb 10) (cutf 4 fb)))))))), (7, .d (.one (old kk (.row 2 (min na 10) (ael 4 (cutf 4 fa)))))), (8, .d (.one (old kk (.row 2 (min nb 10) (ael 4 (cutf 4 fb))))))]) (fun kk => []) (fun kk => ⟨rfl, old1, rfl, old1, rfl, old1, rfl, old1, rfl, old1, rfl, old1, trivial⟩) (fun kk => trivial) (fun kk => ?_)
  refine cSeqK ?_
  refine AW.kk ?_
  refine cReg ?_
  refine mV hTT _ rfl ?_
  refine mV hTT _ rfl ?_
  refine mC0 (aPAddF (k := kk) (IsP.le old_le (⟨⟨(cutf 4 fa), fun _ _ _ h => h, (fun i hi => (show cfz (min na 10) (cutf 4 fa) i = fzv (cutf 4 fa) i from if_pos hi).symm)⟩, cfz_z⟩ : IsP (arow 4 (min na 10) (cutf 4 fa)) 4 (min na 10) (cfz (min na 10) (cutf 4 fa)))) (IsP.le old_le (⟨⟨(cutf 4 fb), fun _ _ _ h => h, (fun i hi => (show cfz (min nb 10) (cutf 4 fb) i = fzv (cutf 4 fb) i from if_pos hi).symm)⟩, cfz_z⟩ : IsP (arow 4 (min nb 10) (cutf 4 fb)) 4 (min nb 10) (cfz (min nb 10) (cutf 4 fb)))) szd_old (M := 5) (by decide) (by omega) (by decide)) rfl rfl rfl ?_
  refine mV hTT _ rfl ?_
  refine mNil ?_
  refine tN ?_
  refine cSeqK ?_
  refine cSeqK ?_
  refine AW.kk ?_
  refine cReg ?_
  refine mV hTT _ rfl ?_
  refine mV hTT _ rfl ?_
  refine mC0 (aQAdd (IsQP.le old_le (isqp (K := 64) (c := (rc (cfz (min na 10) (cutf 4 fa)))) (rc_z (dg_z cfz_z)))) (IsQP.le old_le (isqp (K := 64) (c := (rc (cfz (min nb 10) (cutf 4 fb)))) (rc_z (dg_z cfz_z)))) (M := 129) (by decide) (by omega) (by decide)) rfl rfl rfl ?_
  refine mV hTT _ rfl ?_
  refine mC0 (aIs (K := 129) (L := 5) (n := (dg (faddQ (rc (cfz (min na 10) (cutf 4 fa))) (rc (cfz (min nb 10) (cutf 4 fb)))) (max (dg (cfz (min na 10) (cutf 4 fa)) (min na 10)) (dg (cfz (min nb 10) (cutf 4 fb)) (min nb 10))))) (m := (dg (fadd (cfz (min na 10) (cutf 4 fa)) (cfz (min nb 10) (cutf 4 fb))) (max (min na 10) (min nb 10)))) (q := (faddQ (rc (cfz (min na 10) (cutf 4 fa))) (rc (cfz (min nb 10) (cutf 4 fb))))) (c := (fadd (cfz (min na 10) (cutf 4 fa)) (cfz (min nb 10) (cutf 4 fb)))) (fun _ _ _ h => h) prowF_le (dgQ_eq (rc_add (cfz (min na 10) (cutf 4 fa)) (cfz (min nb 10) (cutf 4 fb))) (fadd_z (dg_z cfz_z) (dg_z cfz_z)) (fadd_z cfz_z cfz_z)) (fun i _ => rc_add (cfz (min na 10) (cutf 4 fa)) (cfz (min nb 10) (cutf 4 fb)) i) (Nat.le_trans (dg_le _ _) (by omega))) rfl rfl rfl ?_
  refine mV hTT (.d (.one (.v (.bool false)))) rfl ?_
  refine mV hTT _ rfl ?_
  refine mV hTT _ rfl ?_
  refine mV hTT _ rfl ?_
  refine mC0 (aQSub (IsQP.le old_le (isqp (K := 64) (c := (rc (cfz (min na 10) (cutf 4 fa)))) (rc_z (dg_z cfz_z)))) (IsQP.le old_le (isqp (K := 64) (c := (rc (cfz (min nb 10) (cutf 4 fb)))) (rc_z (dg_z cfz_z)))) (M := 194) (by decide) (by omega) (by decide)) rfl rfl rfl ?_
  refine mV hTT _ rfl ?_
  refine mV hTT _ rfl ?_
  refine mC0 (aPSub (IsP.le old_le (⟨⟨(cutf 4 fa), fun _ _ _ h => h, (fun i hi => (show cfz (min na 10) (cutf 4 fa) i = fzv (cutf 4 fa) i from if_pos hi).symm)⟩, cfz_z⟩ : IsP (arow 4 (min na 10) (cutf 4 fa)) 4 (min na 10) (cfz (min na 10) (cutf 4 fa)))) (IsP.le old_le (⟨⟨(cutf 4 fb), fun _ _ _ h => h, (fun i hi => (show cfz (min nb 10) (cutf 4 fb) i = fzv (cutf 4 fb) i from if_pos hi).symm)⟩, cfz_z⟩ : IsP (arow 4 (min nb 10) (cutf 4 fb)) 4 (min nb 10) (cfz (min nb 10) (cutf 4 fb)))) (M := 5) (by omega) (by omega) (by decide)) rfl rfl rfl ?_
  refine mC0 (aIs (K := 194) (L := 5) (n := (dg (faddQ (rc (cfz (min na 10) (cutf 4 fa))) (fsclQ (rc (cfz (min nb 10) (cutf 4 fb))) ((-1 : Int) : Rat))) (max (dg (cfz (min na 10) (cutf 4 fa)) (min na 10)) (dg (cfz (min nb 10) (cutf 4 fb)) (min nb 10))))) (m := (dg (fsub (cfz (min na 10) (cutf 4 fa)) (cfz (min nb 10) (cutf 4 fb))) (max (min na 10) (min nb 10)))) (q := (faddQ (rc (cfz (min na 10) (cutf 4 fa))) (fsclQ (rc (cfz (min nb 10) (cutf 4 fb))) ((-1 : Int) : Rat)))) (c := (fsub (cfz (min na 10) (cutf 4 fa)) (cfz (min nb 10) (cutf 4 fb)))) (fun _ _ _ h => h) (fun _ _ _ h => h) (dgQ_eq (rc_sub1 (cfz (min na 10) (cutf 4 fa)) (cfz (min nb 10) (cutf 4 fb))) (fsub_z (dg_z cfz_z) (dg_z cfz_z)) (fsub_z cfz_z cfz_z)) (fun i _ => rc_sub1 (cfz (min na 10) (cutf 4 fa)) (cfz (min nb 10) (cutf 4 fb)) i) (Nat.le_trans (dg_le _ _) (by omega))) rfl rfl rfl ?_
  refine mV hTT (.d (.one (.v (.bool false)))) rfl ?_
  refine mV hTT _ rfl ?_
  refine mV hTT _ rfl ?_
  refine mV hTT _ rfl ?_
  refine mC0 (aQNeg (IsQP.le old_le (isqp (K := 64) (c := (rc (cfz (min na 10) (cutf 4 fa)))) (rc_z (dg_z cfz_z)))) (M := 129) (by decide) (by omega) (by decide)) rfl rfl rfl ?_
  refine mV hTT _ rfl ?_
  refine mC0 (aPNeg (IsP.le old_le (⟨⟨(cutf 4 fa), fun _ _ _ h => h, (fun i hi => (show cfz (min na 10) (cutf 4 fa) i = fzv (cutf 4 fa) i from if_pos hi).symm)⟩, cfz_z⟩ : IsP (arow 4 (min na 10) (cutf 4 fa)) 4 (min na 10) (cfz (min na 10) (cutf 4 fa)))) (by omega) (by decide)) rfl rfl rfl ?_
  refine mC0 (aIs (K := 129) (L := 4) (n := (dg (fsclQ (rc (cfz (min na 10) (cutf 4 fa))) ((-1 : Int) : Rat)) (dg (cfz (min na 10) (cutf 4 fa)) (min na 10)))) (m := (dg (fneg (cfz (min na 10) (cutf 4 fa))) (min na 10))) (q := (fsclQ (rc (cfz (min na 10) (cutf 4 fa))) ((-1 : Int) : Rat))) (c := (fneg (cfz (min na 10) (cutf 4 fa)))) (fun _ _ _ h => h) (fun _ _ _ h => h) (dgQ_eq (rc_neg1 (cfz (min na 10) (cutf 4 fa))) (fneg_z (dg_z cfz_z)) (fneg_z cfz_z)) (fun i _ => rc_neg1 (cfz (min na 10) (cutf 4 fa)) i) (Nat.le_trans (dg_le _ _) (by omega))) rfl rfl rfl ?_
  refine mV hTT (.d (.one (.v (.bool false)))) rfl ?_
  refine mV hTT _ rfl ?_
  refine mV hTT _ rfl ?_
  refine mV hTT _ rfl ?_
  refine mV hTT _ rfl ?_
  refine mC0 (aQMul (IsQP.le old_le (isqp (K := 64) (c := (rc (cfz (min na 10) (cutf 4 fa)))) (rc_z (dg_z cfz_z)))) (IsQP.le old_le (isqp (K := 64) (c := (rc (cfz (min nb 10) (cutf 4 fb)))) (rc_z (dg_z cfz_z)))) (M := 2134) (D := 10) (by omega) (by omega) (by decide) (by decide) (by decide)) rfl rfl rfl ?_
  refine mV hTT _ rfl ?_
  refine mV hTT _ rfl ?_
  refine mC0 (aPMul (IsP.le old_le (⟨⟨(cutf 4 fa), fun _ _ _ h => h, (fun i hi => (show cfz (min na 10) (cutf 4 fa) i = fzv (cutf 4 fa) i from if_pos hi).symm)⟩, cfz_z⟩ : IsP (arow 4 (min na 10) (cutf 4 fa)) 4 (min na 10) (cfz (min na 10) (cutf 4 fa)))) (IsP.le old_le (⟨⟨(cutf 4 fb), fun _ _ _ h => h, (fun i hi => (show cfz (min nb 10) (cutf 4 fb) i = fzv (cutf 4 fb) i from if_pos hi).symm)⟩, cfz_z⟩ : IsP (arow 4 (min nb 10) (cutf 4 fb)) 4 (min nb 10) (cfz (min nb 10) (cutf 4 fb)))) (M := 10009) (D := 10) (by omega) (by omega) (by decide) (by decide) (by decide)) rfl rfl rfl ?_
  refine mC0 (aIs (K := 2134) (L := 10009) (n := (dg (conv (rc (cfz (min na 10) (cutf 4 fa))) (rc (cfz (min nb 10) (cutf 4 fb)))) ((dg (cfz (min na 10) (cutf 4 fa)) (min na 10)) + (dg (cfz (min nb 10) (cutf 4 fb)) (min nb 10))))) (m := (dg (conv (cfz (min na 10) (cutf 4 fa)) (cfz (min nb 10) (cutf 4 fb))) ((min na 10) + (min nb 10)))) (q := (conv (rc (cfz (min na 10) (cutf 4 fa))) (rc (cfz (min nb 10) (cutf 4 fb))))) (c := (conv (cfz (min na 10) (cutf 4 fa)) (cfz (min nb 10) (cutf 4 fb)))) (fun _ _ _ h => h) (fun _ _ _ h => h) (dgQ_eq (rc_conv (cfz (min na 10) (cutf 4 fa)) (cfz (min nb 10) (cutf 4 fb))) (conv_z0 (dg_z cfz_z) (dg_z cfz_z)) (conv_z0 cfz_z cfz_z)) (fun i _ => rc_conv (cfz (min na 10) (cutf 4 fa)) (cfz (min nb 10) (cutf 4 fb)) i) (Nat.le_trans (dg_le _ _) (by omega))) rfl rfl rfl ?_
  refine mV hTT (.d (.one (.v (.bool false)))) rfl ?_
  refine mV hTT _ rfl ?_
  refine mV hTT _ rfl ?_
  refine mV hTT _ rfl ?_
  refine mV hTT _ rfl ?_
  refine mC0 (aPNorm (IsP.le old_le (⟨⟨(cutf 4 fa), fun _ _ _ h => h, (fun i hi => (show cfz (min na 10) (cutf 4 fa) i = fzv (cutf 4 fa) i from if_pos hi).symm)⟩, cfz_z⟩ : IsP (arow 4 (min na 10) (cutf 4 fa)) 4 (min na 10) (cfz (min na 10) (cutf 4 fa)))) (by omega) (by decide)) rfl rfl rfl ?_
  refine mC0 (aIs (K := 64) (L := 4) (n := (dg (cfz (min na 10) (cutf 4 fa)) (min na 10))) (m := (dg (cfz (min na 10) (cutf 4 fa)) (min na 10))) (q := (rc (cfz (min na 10) (cutf 4 fa)))) (c := (cfz (min na 10) (cutf 4 fa))) old_le (fun _ _ _ h => h) rfl (fun _ _ => rfl) (Nat.le_trans (dg_le _ _) (by omega))) rfl rfl rfl ?_
  refine mV hTT (.d (.one (.v (.bool false)))) rfl ?_
  refine mV hTT _ rfl ?_
  refine mV hTT _ rfl ?_
  refine mV hTT _ rfl ?_
  refine mC0 (aQDer (IsQP.le old_le (isqp (K := 64) (c := (rc (cfz (min na 10) (cutf 4 fa)))) (rc_z (dg_z cfz_z)))) (M := 129) (by decide) (by omega) (by decide)) rfl rfl rfl ?_
  refine mV hTT _ rfl ?_
  refine mC0 (aPDer (IsP.le old_le (⟨⟨(cutf 4 fa), fun _ _ _ h => h, (fun i hi => (show cfz (min na 10) (cutf 4 fa) i = fzv (cutf 4 fa) i from if_pos hi).symm)⟩, cfz_z⟩ : IsP (arow 4 (min na 10) (cutf 4 fa)) 4 (min na 10) (cfz (min na 10) (cutf 4 fa)))) (M := 6) (by decide) (by omega) (by decide)) rfl rfl rfl ?_
  refine mC0 (aIs (K := 129) (L := 6) (n := (dg (derE (rc (cfz (min na 10) (cutf 4 fa)))) ((dg (cfz (min na 10) (cutf 4 fa)) (min na 10)) - 1))) (m := (dg (fder (cfz (min na 10) (cutf 4 fa))) ((min na 10) - 1))) (q := (derE (rc (cfz (min na 10) (cutf 4 fa))))) (c := (fder (cfz (min na 10) (cutf 4 fa)))) (fun _ _ _ h => h) (fun _ _ _ h => h) (dgQ_eq (rc_der1 (cfz (min na 10) (cutf 4 fa))) (fder_z (dg_z cfz_z)) (fder_z cfz_z)) (fun i _ => rc_der1 (cfz (min na 10) (cutf 4 fa)) i) (Nat.le_trans (dg_le _ _) (by omega))) rfl rfl rfl ?_
  refine mV hTT (.d (.one (.v (.bool false)))) rfl ?_
  refine mV hTT _ rfl ?_
  refine mNil ?_
  refine tN ?_
  refine cFK rfl ?_
  refine cSkipK ?_
  refine tN ?_
  refine cSeqK ?_
  refine cSeqK ?_
  refine cExK (Qx := fun j => kk ≤ j) (L := fun j => prowS j 5 (dg (fadd (cfz (min na 10) (cutf 4 fa)) (cfz (min nb 10) (cutf 4 fb))) (max (min na 10) (min nb 10))) (fadd (cfz (min na 10) (cutf 4 fa)) (cfz (min nb 10) (cutf 4 fb)))) 9 rfl (fun j1 hj1 => ?_)
  refine cViewK 9 (.d (.one (rowS j1 2 (dg (fadd (cfz (min na 10) (cutf 4 fa)) (cfz (min nb 10) (cutf 4 fb))) (max (min na 10) (min nb 10))) (sel j1)))) rfl (le_one prowS_sel) ?_
  refine AW.kk ?_
  refine cReg ?_
  refine mV hTT _ rfl ?_
  refine mView 79 (.d (.one (.row 2 (dg (fadd (cfz (min na 10) (cutf 4 fa)) (cfz (min nb 10) (cutf 4 fb))) (max (min na 10) (min nb 10))) (sel j1)))) rfl (le_one rowS_le) ?_
  refine mV hTT (.d (.one (.v (.int .i64 ((dg (fadd (cfz (min na 10) (cutf 4 fa)) (cfz (min nb 10) (cutf 4 fb))) (max (min na 10) (min nb 10)) : Nat) : Int))))) rfl ?_
  refine mV hTT _ rfl ?_
  refine mNil ?_
  refine tN ?_
  refine cBlockK ?_
  refine cLoopK (ι := Nat) (fun (i : Nat) => ⟨132, [(0, .d (.one (old kk (.row 2 (min na 10) (ael 4 (cutf 4 fa)))))), (1, .d (.one (old kk (.row 2 (min nb 10) (ael 4 (cutf 4 fb)))))), (5, .d (.one (old kk (.row 4 (dg (cfz (min na 10) (cutf 4 fa)) (min na 10)) (qel 64 (rc (cfz (min na 10) (cutf 4 fa)))))))), (6, .d (.one (old kk (.row 4 (dg (cfz (min nb 10) (cutf 4 fb)) (min nb 10)) (qel 64 (rc (cfz (min nb 10) (cutf 4 fb)))))))), (7, .d (.one (old kk (.row 2 (min na 10) (ael 4 (cutf 4 fa)))))), (8, .d (.one (old kk (.row 2 (min nb 10) (ael 4 (cutf 4 fb)))))), (9, .d (.one (rowS j1 2 (dg (fadd (cfz (min na 10) (cutf 4 fa)) (cfz (min nb 10) (cutf 4 fb))) (max (min na 10) (min nb 10))) (sel j1)))), (80, .d (.one (.v (.int .i64 ((dg (fadd (cfz (min na 10) (cutf 4 fa)) (cfz (min nb 10) (cutf 4 fb))) (max (min na 10) (min nb 10)) : Nat) : Int))))), (81, .d (.one (.v (.int .i64 ((i : Nat) : Int)))))], []⟩) (fun (i : Nat) => i ≤ (dg (fadd (cfz (min na 10) (cutf 4 fa)) (cfz (min nb 10) (cutf 4 fb))) (max (min na 10) (min nb 10)))) (fun (i : Nat) => (dg (fadd (cfz (min na 10) (cutf 4 fa)) (cfz (min nb 10) (cutf 4 fb))) (max (min na 10) (min nb 10))) - i) 0 (Nat.zero_le _) (wk (sl := [(0, .d (.one (old kk (.row 2 (min na 10) (ael 4 (cutf 4 fa)))))), (1, .d (.one (old kk (.row 2 (min nb 10) (ael 4 (cutf 4 fb)))))), (5, .d (.one (old kk (.row 4 (dg (cfz (min na 10) (cutf 4 fa)) (min na 10)) (qel 64 (rc (cfz (min na 10) (cutf 4 fa)))))))), (6, .d (.one (old kk (.row 4 (dg (cfz (min nb 10) (cutf 4 fb)) (min nb 10)) (qel 64 (rc (cfz (min nb 10) (cutf 4 fb)))))))), (7, .d (.one (old kk (.row 2 (min na 10) (ael 4 (cutf 4 fa)))))), (8, .d (.one (old kk (.row 2 (min nb 10) (ael 4 (cutf 4 fb)))))), (9, .d (.one (rowS j1 2 (dg (fadd (cfz (min na 10) (cutf 4 fa)) (cfz (min nb 10) (cutf 4 fb))) (max (min na 10) (min nb 10))) (sel j1)))), (80, .d (.one (.v (.int .i64 ((dg (fadd (cfz (min na 10) (cutf 4 fa)) (cfz (min nb 10) (cutf 4 fb))) (max (min na 10) (min nb 10)) : Nat) : Int))))), (81, .d (.one (.v (.int .i64 ((0 : Nat) : Int)))))]) (hp := []) rfl ⟨hs rfl, hs rfl, hs rfl, hs rfl, hs rfl, hs rfl, hs rfl, hs rfl, hs rfl, trivial⟩ trivial rfl) ?_
  rintro i hI
  have hi : i ≤ (dg (fadd (cfz (min na 10) (cutf 4 fa)) (cfz (min nb 10) (cutf 4 fb))) (max (min na 10) (min nb 10))) := hI
  show AWk _ Try.prog _ _ ⟨132, [(0, .d (.one (old kk (.row 2 (min na 10) (ael 4 (cutf 4 fa)))))), (1, .d (.one (old kk (.row 2 (min nb 10) (ael 4 (cutf 4 fb)))))), (5, .d (.one (old kk (.row 4 (dg (cfz (min na 10) (cutf 4 fa)) (min na 10)) (qel 64 (rc (cfz (min na 10) (cutf 4 fa)))))))), (6, .d (.one (old kk (.row 4 (dg (cfz (min nb 10) (cutf 4 fb)) (min nb 10)) (qel 64 (rc (cfz (min nb 10) (cutf 4 fb)))))))), (7, .d (.one (old kk (.row 2 (min na 10) (ael 4 (cutf 4 fa)))))), (8, .d (.one (old kk (.row 2 (min nb 10) (ael 4 (cutf 4 fb)))))), (9, .d (.one (rowS j1 2 (dg (fadd (cfz (min na 10) (cutf 4 fa)) (cfz (min nb 10) (cutf 4 fb))) (max (min na 10) (min nb 10))) (sel j1)))), (80, .d (.one (.v (.int .i64 ((dg (fadd (cfz (min na 10) (cutf 4 fa)) (cfz (min nb 10) (cutf 4 fb))) (max (min na 10) (min nb 10)) : Nat) : Int))))), (81, .d (.one (.v (.int .i64 ((i : Nat) : Int)))))], []⟩
  refine cSeqK ?_
  refine AW.kk ?_
  refine cReg ?_
  refine mV hTT (.d (.one (.v (.bool (decide (((i : Nat) : Int) < ((dg (fadd (cfz (min na 10) (cutf 4 fa)) (cfz (min nb 10) (cutf 4 fb))) (max (min na 10) (min nb 10)) : Nat) : Int))))))) rfl ?_
  refine mNil ?_
  refine tN ?_
  refine cSeqK ?_
  refine cCondK rfl (fun hc1 => ?_) (fun hc1 => ?_)
  · skip
    refine cSkipK ?_
    refine tN ?_
    refine cSeqK ?_
    refine cBlockK ?_
    refine cSeqK ?_
    have hin : i < (dg (fadd (cfz (min na 10) (cutf 4 fa)) (cfz (min nb 10) (cutf 4 fb))) (max (min na 10) (min nb 10))) := by have h0 := of_decide_eq_true hc1; omega
    refine AW.kk ?_
    refine cReg ?_
    refine mV hTT _ rfl ?_
    refine mV hTT _ rfl ?_
    refine mNil ?_
    refine tN ?_
    refine cRegK ?_
    refine mVK hTT _ rfl ?_
    refine mVK hTT _ rfl ?_
    refine mViewK 84 (.d (.one (.row 2 (dg (fadd (cfz (min na 10) (cutf 4 fa)) (cfz (min nb 10) (cutf 4 fb))) (max (min na 10) (min nb 10))) (sel j1)))) rfl (le_one rowS_le) ?_
    refine mVK hTT (.d (.one (.at 2 ((sel j1) i)))) (ixR (el := (sel j1)) (z := ((i : Nat) : Int)) (n := (dg (fadd (cfz (min na 10) (cutf 4 fa)) (cfz (min nb 10) (cutf 4 fb))) (max (min na 10) (min nb 10)))) rfl rfl rfl rfl rfl rfl (by omega) (by omega)) ?_
    refine mVK hTT _ rfl ?_
    refine mVK hTT (.d (.one (spl j1))) rfl ?_
    refine ALk.wk (wk (sl := [(0, .d (.one (old kk (.row 2 (min na 10) (ael 4 (cutf 4 fa)))))), (1, .d (.one (old kk (.row 2 (min nb 10) (ael 4 (cutf 4 fb)))))), (5, .d (.one (old kk (.row 4 (dg (cfz (min na 10) (cutf 4 fa)) (min na 10)) (qel 64 (rc (cfz (min na 10) (cutf 4 fa)))))))), (6, .d (.one (old kk (.row 4 (dg (cfz (min nb 10) (cutf 4 fb)) (min nb 10)) (qel 64 (rc (cfz (min nb 10) (cutf 4 fb)))))))), (7, .d (.one (old kk (.row 2 (min na 10) (ael 4 (cutf 4 fa)))))), (8, .d (.one (old kk (.row 2 (min nb 10) (ael 4 (cutf 4 fb)))))), (9, .d (.one (rowS j1 2 (dg (fadd (cfz (min na 10) (cutf 4 fa)) (cfz (min nb 10) (cutf 4 fb))) (max (min na 10) (min nb 10))) (sel j1)))), (80, .d (.one (.v (.int .i64 ((dg (fadd (cfz (min na 10) (cutf 4 fa)) (cfz (min nb 10) (cutf 4 fb))) (max (min na 10) (min nb 10)) : Nat) : Int))))), (81, .d (.one (.v (.int .i64 ((i : Nat) : Int))))), (88, .d (.one (spl j1)))]) (hp := []) rfl ⟨hs rfl, hs rfl, hs rfl, hs rfl, hs rfl, hs rfl, hs rfl, hs rfl, hs rfl, hs' rfl (AV.le.rfl), trivial⟩ trivial rfl) ?_
    refine mSplK (j := j1) (enters Try.func20 rfl rfl) (spoil_spl j1) rfl rfl rfl rfl hj1 ⟨sta_one (st_old hj1), sta_one (st_old hj1), sta_one (st_old hj1), sta_one (st_old hj1), sta_one (st_old hj1), sta_one (st_old hj1), sta_one st_sel, sta_one st_v, sta_one st_v, sta_one st_spl, trivial⟩ trivial ?_
    refine mNilK ?_
    refine bN ?_
    refine tN ?_
    refine AW.kk ?_
    refine cReg ?_
    refine mV hTT (.d (.one (.v (.int .i64 (IntKind.i64.wrap (((i : Nat) : Int) + 1)))))) rfl ?_
    refine mV hTT _ rfl ?_
    refine mNil ?_
    exact ⟨(i + 1), by omega, by omega, wk (sl := [(0, .d (.one (old kk (.row 2 (min na 10) (ael 4 (cutf 4 fa)))))), (1, .d (.one (old kk (.row 2 (min nb 10) (ael 4 (cutf 4 fb)))))), (5, .d (.one (old kk (.row 4 (dg (cfz (min na 10) (cutf 4 fa)) (min na 10)) (qel 64 (rc (cfz (min na 10) (cutf 4 fa)))))))), (6, .d (.one (old kk (.row 4 (dg (cfz (min nb 10) (cutf 4 fb)) (min nb 10)) (qel 64 (rc (cfz (min nb 10) (cutf 4 fb)))))))), (7, .d (.one (old kk (.row 2 (min na 10) (ael 4 (cutf 4 fa)))))), (8, .d (.one (old kk (.row 2 (min nb 10) (ael 4 (cutf 4 fb)))))), (9, .d (.one (rowS j1 2 (dg (fadd (cfz (min na 10) (cutf 4 fa)) (cfz (min nb 10) (cutf 4 fb))) (max (min na 10) (min nb 10))) (sel j1)))), (80, .d (.one (.v (.int .i64 ((dg (fadd (cfz (min na 10) (cutf 4 fa)) (cfz (min nb 10) (cutf 4 fb))) (max (min na 10) (min nb 10)) : Nat) : Int))))), (81, .d (.one (.v (.int .i64 (((i + 1) : Nat) : Int)))))]) (hp := []) rfl ⟨hs rfl, hs rfl, hs rfl, hs rfl, hs rfl, hs rfl, hs rfl, hs rfl, hs' rfl (le_int (inc64 (by omega))), trivial⟩ trivial rfl⟩
  · skip
    refine cExitK ?_
    refine tE ?_
    refine tE ?_
    refine bE ?_
    refine tN ?_
    refine cSeqK ?_
    refine AWk.wk (wk (sl := [(0, .d (.one (old kk (.row 2 (min na 10) (ael 4 (cutf 4 fa)))))), (1, .d (.one (old kk (.row 2 (min nb 10) (ael 4 (cutf 4 fb)))))), (5, .d (.one (old kk (.row 4 (dg (cfz (min na 10) (cutf 4 fa)) (min na 10)) (qel 64 (rc (cfz (min na 10) (cutf 4 fa)))))))), (6, .d (.one (old kk (.row 4 (dg (cfz (min nb 10) (cutf 4 fb)) (min nb 10)) (qel 64 (rc (cfz (min nb 10) (cutf 4 fb)))))))), (7, .d (.one (old kk (.row 2 (min na 10) (ael 4 (cutf 4 fa)))))), (8, .d (.one (old kk (.row 2 (min nb 10) (ael 4 (cutf 4 fb))))))]) (hp := []) rfl ⟨hs rfl, hs rfl, hs rfl, hs rfl, hs rfl, hs rfl, trivial⟩ trivial rfl) ?_
    refine AW.kk ?_
    refine cReg ?_
    refine mV hTT _ rfl ?_
    refine mC0 (aPNormF (k := kk) (IsP.le old_le (⟨⟨(cutf 4 fa), fun _ _ _ h => h, (fun i hi => (show cfz (min na 10) (cutf 4 fa) i = fzv (cutf 4 fa) i from if_pos hi).symm)⟩, cfz_z⟩ : IsP (arow 4 (min na 10) (cutf 4 fa)) 4 (min na 10) (cfz (min na 10) (cutf 4 fa)))) szd_old (by omega) (by decide)) rfl rfl rfl ?_
    refine mV hTT _ rfl ?_
    refine mNil ?_
    refine tN ?_
    refine cSeqK ?_
    refine cSeqK ?_
    refine cExK (Qx := fun j => kk ≤ j) (L := fun j => prowS j 4 (dg (cfz (min na 10) (cutf 4 fa)) (min na 10)) (cfz (min na 10) (cutf 4 fa))) 11 rfl (fun j2 hj2 => ?_)
    refine cViewK 11 (.d (.one (rowS j2 2 (dg (cfz (min na 10) (cutf 4 fa)) (min na 10)) (sel j2)))) rfl (le_one prowS_sel) ?_
    refine AW.kk ?_
    refine cReg ?_
    refine mV hTT _ rfl ?_
    refine mView 93 (.d (.one (.row 2 (dg (cfz (min na 10) (cutf 4 fa)) (min na 10)) (sel j2)))) rfl (le_one rowS_le) ?_
    refine mV hTT (.d (.one (.v (.int .i64 ((dg (cfz (min na 10) (cutf 4 fa)) (min na 10) : Nat) : Int))))) rfl ?_
    refine mV hTT _ rfl ?_
    refine mNil ?_
    refine tN ?_
    refine cBlockK ?_
    refine cLoopK (ι := Nat) (fun (i : Nat) => ⟨132, [(0, .d (.one (old kk (.row 2 (min na 10) (ael 4 (cutf 4 fa)))))), (1, .d (.one (old kk (.row 2 (min nb 10) (ael 4 (cutf 4 fb)))))), (5, .d (.one (old kk (.row 4 (dg (cfz (min na 10) (cutf 4 fa)) (min na 10)) (qel 64 (rc (cfz (min na 10) (cutf 4 fa)))))))), (6, .d (.one (old kk (.row 4 (dg (cfz (min nb 10) (cutf 4 fb)) (min nb 10)) (qel 64 (rc (cfz (min nb 10) (cutf 4 fb)))))))), (7, .d (.one (old kk (.row 2 (min na 10) (ael 4 (cutf 4 fa)))))), (8, .d (.one (old kk (.row 2 (min nb 10) (ael 4 (cutf 4 fb)))))), (11, .d (.one (rowS j2 2 (dg (cfz (min na 10) (cutf 4 fa)) (min na 10)) (sel j2)))), (94, .d (.one (.v (.int .i64 ((dg (cfz (min na 10) (cutf 4 fa)) (min na 10) : Nat) : Int))))), (95, .d (.one (.v (.int .i64 ((i : Nat) : Int)))))], []⟩) (fun (i : Nat) => i ≤ (dg (cfz (min na 10) (cutf 4 fa)) (min na 10))) (fun (i : Nat) => (dg (cfz (min na 10) (cutf 4 fa)) (min na 10)) - i) 0 (Nat.zero_le _) (wk (sl := [(0, .d (.one (old kk (.row 2 (min na 10) (ael 4 (cutf 4 fa)))))), (1, .d (.one (old kk (.row 2 (min nb 10) (ael 4 (cutf 4 fb)))))), (5, .d (.one (old kk (.row 4 (dg (cfz (min na 10) (cutf 4 fa)) (min na 10)) (qel 64 (rc (cfz (min na 10) (cutf 4 fa)))))))), (6, .d (.one (old kk (.row 4 (dg (cfz (min nb 10) (cutf 4 fb)) (min nb 10)) (qel 64 (rc (cfz (min nb 10) (cutf 4 fb)))))))), (7, .d (.one (old kk (.row 2 (min na 10) (ael 4 (cutf 4 fa)))))), (8, .d (.one (old kk (.row 2 (min nb 10) (ael 4 (cutf 4 fb)))))), (11, .d (.one (rowS j2 2 (dg (cfz (min na 10) (cutf 4 fa)) (min na 10)) (sel j2)))), (94, .d (.one (.v (.int .i64 ((dg (cfz (min na 10) (cutf 4 fa)) (min na 10) : Nat) : Int))))), (95, .d (.one (.v (.int .i64 ((0 : Nat) : Int)))))]) (hp := []) rfl ⟨hs rfl, hs rfl, hs rfl, hs rfl, hs rfl, hs rfl, hs rfl, hs rfl, hs rfl, trivial⟩ trivial rfl) ?_
    rintro i hI
    have hi : i ≤ (dg (cfz (min na 10) (cutf 4 fa)) (min na 10)) := hI
    show AWk _ Try.prog _ _ ⟨132, [(0, .d (.one (old kk (.row 2 (min na 10) (ael 4 (cutf 4 fa)))))), (1, .d (.one (old kk (.row 2 (min nb 10) (ael 4 (cutf 4 fb)))))), (5, .d (.one (old kk (.row 4 (dg (cfz (min na 10) (cutf 4 fa)) (min na 10)) (qel 64 (rc (cfz (min na 10) (cutf 4 fa)))))))), (6, .d (.one (old kk (.row 4 (dg (cfz (min nb 10) (cutf 4 fb)) (min nb 10)) (qel 64 (rc (cfz (min nb 10) (cutf 4 fb)))))))), (7, .d (.one (old kk (.row 2 (min na 10) (ael 4 (cutf 4 fa)))))), (8, .d (.one (old kk (.row 2 (min nb 10) (ael 4 (cutf 4 fb)))))), (11, .d (.one (rowS j2 2 (dg (cfz (min na 10) (cutf 4 fa)) (min na 10)) (sel j2)))), (94, .d (.one (.v (.int .i64 ((dg (cfz (min na 10) (cutf 4 fa)) (min na 10) : Nat) : Int))))), (95, .d (.one (.v (.int .i64 ((i : Nat) : Int)))))], []⟩
    refine cSeqK ?_
    refine AW.kk ?_
    refine cReg ?_
    refine mV hTT (.d (.one (.v (.bool (decide (((i : Nat) : Int) < ((dg (cfz (min na 10) (cutf 4 fa)) (min na 10) : Nat) : Int))))))) rfl ?_
    refine mNil ?_
    refine tN ?_
    refine cSeqK ?_
    refine cCondK rfl (fun hc2 => ?_) (fun hc2 => ?_)
    · skip
      refine cSkipK ?_
      refine tN ?_
      refine cSeqK ?_
      refine cBlockK ?_
      refine cSeqK ?_
      have hin : i < (dg (cfz (min na 10) (cutf 4 fa)) (min na 10)) := by have h0 := of_decide_eq_true hc2; omega
      refine AW.kk ?_
      refine cReg ?_
      refine mV hTT _ rfl ?_
      refine mV hTT _ rfl ?_
      refine mNil ?_
      refine tN ?_
      refine cRegK ?_
      refine mVK hTT _ rfl ?_
      refine mVK hTT _ rfl ?_
      refine mViewK 98 (.d (.one (.row 2 (dg (cfz (min na 10) (cutf 4 fa)) (min na 10)) (sel j2)))) rfl (le_one rowS_le) ?_
      refine mVK hTT (.d (.one (.at 2 ((sel j2) i)))) (ixR (el := (sel j2)) (z := ((i : Nat) : Int)) (n := (dg (cfz (min na 10) (cutf 4 fa)) (min na 10))) rfl rfl rfl rfl rfl rfl (by omega) (by omega)) ?_
      refine mVK hTT _ rfl ?_
      refine mVK hTT (.d (.one (spl j2))) rfl ?_
      refine ALk.wk (wk (sl := [(0, .d (.one (old kk (.row 2 (min na 10) (ael 4 (cutf 4 fa)))))), (1, .d (.one (old kk (.row 2 (min nb 10) (ael 4 (cutf 4 fb)))))), (5, .d (.one (old kk (.row 4 (dg (cfz (min na 10) (cutf 4 fa)) (min na 10)) (qel 64 (rc (cfz (min na 10) (cutf 4 fa)))))))), (6, .d (.one (old kk (.row 4 (dg (cfz (min nb 10) (cutf 4 fb)) (min nb 10)) (qel 64 (rc (cfz (min nb 10) (cutf 4 fb)))))))), (7, .d (.one (old kk (.row 2 (min na 10) (ael 4 (cutf 4 fa)))))), (8, .d (.one (old kk (.row 2 (min nb 10) (ael 4 (cutf 4 fb)))))), (11, .d (.one (rowS j2 2 (dg (cfz (min na 10) (cutf 4 fa)) (min na 10)) (sel j2)))), (94, .d (.one (.v (.int .i64 ((dg (cfz (min na 10) (cutf 4 fa)) (min na 10) : Nat) : Int))))), (95, .d (.one (.v (.int .i64 ((i : Nat) : Int))))), (102, .d (.one (spl j2)))]) (hp := []) rfl ⟨hs rfl, hs rfl, hs rfl, hs rfl, hs rfl, hs rfl, hs rfl, hs rfl, hs rfl, hs' rfl (AV.le.rfl), trivial⟩ trivial rfl) ?_
      refine mSplK (j := j2) (enters Try.func20 rfl rfl) (spoil_spl j2) rfl rfl rfl rfl hj2 ⟨sta_one (st_old hj2), sta_one (st_old hj2), sta_one (st_old hj2), sta_one (st_old hj2), sta_one (st_old hj2), sta_one (st_old hj2), sta_one st_sel, sta_one st_v, sta_one st_v, sta_one st_spl, trivial⟩ trivial ?_
      refine mNilK ?_
      refine bN ?_
      refine tN ?_
      refine AW.kk ?_
      refine cReg ?_
      refine mV hTT (.d (.one (.v (.int .i64 (IntKind.i64.wrap (((i : Nat) : Int) + 1)))))) rfl ?_
      refine mV hTT _ rfl ?_
      refine mNil ?_
      exact ⟨(i + 1), by omega, by omega, wk (sl := [(0, .d (.one (old kk (.row 2 (min na 10) (ael 4 (cutf 4 fa)))))), (1, .d (.one (old kk (.row 2 (min nb 10) (ael 4 (cutf 4 fb)))))), (5, .d (.one (old kk (.row 4 (dg (cfz (min na 10) (cutf 4 fa)) (min na 10)) (qel 64 (rc (cfz (min na 10) (cutf 4 fa)))))))), (6, .d (.one (old kk (.row 4 (dg (cfz (min nb 10) (cutf 4 fb)) (min nb 10)) (qel 64 (rc (cfz (min nb 10) (cutf 4 fb)))))))), (7, .d (.one (old kk (.row 2 (min na 10) (ael 4 (cutf 4 fa)))))), (8, .d (.one (old kk (.row 2 (min nb 10) (ael 4 (cutf 4 fb)))))), (11, .d (.one (rowS j2 2 (dg (cfz (min na 10) (cutf 4 fa)) (min na 10)) (sel j2)))), (94, .d (.one (.v (.int .i64 ((dg (cfz (min na 10) (cutf 4 fa)) (min na 10) : Nat) : Int))))), (95, .d (.one (.v (.int .i64 (((i + 1) : Nat) : Int)))))]) (hp := []) rfl ⟨hs rfl, hs rfl, hs rfl, hs rfl, hs rfl, hs rfl, hs rfl, hs rfl, hs' rfl (le_int (inc64 (by omega))), trivial⟩ trivial rfl⟩
    · skip
      refine cExitK ?_
      refine tE ?_
      refine tE ?_
      refine bE ?_
      refine tN ?_
      refine cSeqK ?_
      refine AWk.wk (wk (sl := [(0, .d (.one (old kk (.row 2 (min na 10) (ael 4 (cutf 4 fa)))))), (1, .d (.one (old kk (.row 2 (min nb 10) (ael 4 (cutf 4 fb)))))), (5, .d (.one (old kk (.row 4 (dg (cfz (min na 10) (cutf 4 fa)) (min na 10)) (qel 64 (rc (cfz (min na 10) (cutf 4 fa)))))))), (6, .d (.one (old kk (.row 4 (dg (cfz (min nb 10) (cutf 4 fb)) (min nb 10)) (qel 64 (rc (cfz (min nb 10) (cutf 4 fb)))))))), (7, .d (.one (old kk (.row 2 (min na 10) (ael 4 (cutf 4 fa)))))), (8, .d (.one (old kk (.row 2 (min nb 10) (ael 4 (cutf 4 fb))))))]) (hp := []) rfl ⟨hs rfl, hs rfl, hs rfl, hs rfl, hs rfl, hs rfl, trivial⟩ trivial rfl) ?_
      by_cases hcd : ∀ i, (cfz (min na 10) (cutf 4 fa)) i = (cfz (min nb 10) (cutf 4 fb)) i
      · skip
        refine AW.kk ?_
        refine cReg ?_
        refine mV hTT _ rfl ?_
        refine mV hTT _ rfl ?_
        refine mC0 (aPSameB (IsP.le old_le (⟨⟨(cutf 4 fa), fun _ _ _ h => h, (fun i hi => (show cfz (min na 10) (cutf 4 fa) i = fzv (cutf 4 fa) i from if_pos hi).symm)⟩, cfz_z⟩ : IsP (arow 4 (min na 10) (cutf 4 fa)) 4 (min na 10) (cfz (min na 10) (cutf 4 fa)))) (IsP.le old_le (⟨⟨(cutf 4 fb), fun _ _ _ h => h, (fun i hi => (show cfz (min nb 10) (cutf 4 fb) i = fzv (cutf 4 fb) i from if_pos hi).symm)⟩, cfz_z⟩ : IsP (arow 4 (min nb 10) (cutf 4 fb)) 4 (min nb 10) (cfz (min nb 10) (cutf 4 fb)))) (r := true) ⟨fun _ => hcd, fun _ => rfl⟩ (by omega) (by omega) (by decide) (by decide)) rfl rfl rfl ?_
        refine mV hTT _ rfl ?_
        refine mV hTT _ rfl ?_
        refine mC0 (aQSub (IsQP.le old_le (isqp (K := 64) (c := (rc (cfz (min na 10) (cutf 4 fa)))) (rc_z (dg_z cfz_z)))) (IsQP.le old_le (isqp (K := 64) (c := (rc (cfz (min nb 10) (cutf 4 fb)))) (rc_z (dg_z cfz_z)))) (M := 194) (by decide) (by omega) (by decide)) rfl rfl rfl ?_
        refine mV hTT (.d (.one (.v (.int .i64 ((dg (faddQ (rc (cfz (min na 10) (cutf 4 fa))) (fsclQ (rc (cfz (min nb 10) (cutf 4 fb))) ((-1 : Int) : Rat))) (max (dg (cfz (min na 10) (cutf 4 fa)) (min na 10)) (dg (cfz (min nb 10) (cutf 4 fb)) (min nb 10))) : Nat) : Int))))) rfl ?_
        refine mV hTT (.d (.one (.v (.bool true)))) (evb (by rw [(sub_len (c := (cfz (min na 10) (cutf 4 fa))) (d := (cfz (min nb 10) (cutf 4 fb))) (fsub_z (dg_z cfz_z) (dg_z cfz_z))).2 hcd]; rfl)) ?_
        refine mV hTT (.d (.one (.v (.bool true)))) rfl ?_
        refine mV hTT _ rfl ?_
        refine mV hTT _ rfl ?_
        refine mV hTT _ rfl ?_
        refine mC0 (aPSameB (IsP.le old_le (⟨⟨(cutf 4 fa), fun _ _ _ h => h, (fun i hi => (show cfz (min na 10) (cutf 4 fa) i = fzv (cutf 4 fa) i from if_pos hi).symm)⟩, cfz_z⟩ : IsP (arow 4 (min na 10) (cutf 4 fa)) 4 (min na 10) (cfz (min na 10) (cutf 4 fa)))) (IsP.le old_le (⟨⟨(cutf 4 fa), fun _ _ _ h => h, (fun i hi => (show cfz (min na 10) (cutf 4 fa) i = fzv (cutf 4 fa) i from if_pos hi).symm)⟩, cfz_z⟩ : IsP (arow 4 (min na 10) (cutf 4 fa)) 4 (min na 10) (cfz (min na 10) (cutf 4 fa)))) (r := true) ⟨fun _ _ => rfl, fun _ => rfl⟩ (by omega) (by omega) (by decide) (by decide)) rfl rfl rfl ?_
        refine mV hTT _ rfl ?_
        refine mV hTT _ rfl ?_
        refine mV hTT _ rfl ?_
        refine mV hTT _ rfl ?_
        refine mC0 (ACall.le (dl (DV.l old_le) (dl (DV.l old_le) dl0)) AV.le.rfl (aSamePolyA (K := 4) (L := 4) (n := (min na 10)) (f := (cutf 4 fa)) (by omega) (by decide) (by decide))) rfl rfl rfl ?_
        refine mV hTT _ rfl ?_
        refine mV hTT _ rfl ?_
        refine mV hTT _ rfl ?_
        refine mV hTT _ rfl ?_
        refine mC0 (ACall.le (dl (DV.l old_le) (dl (DV.l old_le) dl0)) AV.le.rfl (aSamePolyA (K := 4) (L := 4) (n := (min nb 10)) (f := (cutf 4 fb)) (by omega) (by decide) (by decide))) rfl rfl rfl ?_
        refine mV hTT _ rfl ?_
        refine mV hTT _ rfl ?_
        refine mC0 (aWakes) rfl rfl rfl ?_
        refine mV hTT _ rfl ?_
        refine mV hTT _ rfl ?_
        refine mNil ?_
        refine tN ?_
        refine cRetK ?_
        exact rQ rfl (AV.le.rfl)
      · skip
        refine AW.kk ?_
        refine cReg ?_
        refine mV hTT _ rfl ?_
        refine mV hTT _ rfl ?_
        refine mC0 (aPSameB (IsP.le old_le (⟨⟨(cutf 4 fa), fun _ _ _ h => h, (fun i hi => (show cfz (min na 10) (cutf 4 fa) i = fzv (cutf 4 fa) i from if_pos hi).symm)⟩, cfz_z⟩ : IsP (arow 4 (min na 10) (cutf 4 fa)) 4 (min na 10) (cfz (min na 10) (cutf 4 fa)))) (IsP.le old_le (⟨⟨(cutf 4 fb), fun _ _ _ h => h, (fun i hi => (show cfz (min nb 10) (cutf 4 fb) i = fzv (cutf 4 fb) i from if_pos hi).symm)⟩, cfz_z⟩ : IsP (arow 4 (min nb 10) (cutf 4 fb)) 4 (min nb 10) (cfz (min nb 10) (cutf 4 fb)))) (r := false) ⟨fun e => absurd e Bool.false_ne_true, fun e => absurd e hcd⟩ (by omega) (by omega) (by decide) (by decide)) rfl rfl rfl ?_
        refine mV hTT _ rfl ?_
        refine mV hTT _ rfl ?_
        refine mC0 (aQSub (IsQP.le old_le (isqp (K := 64) (c := (rc (cfz (min na 10) (cutf 4 fa)))) (rc_z (dg_z cfz_z)))) (IsQP.le old_le (isqp (K := 64) (c := (rc (cfz (min nb 10) (cutf 4 fb)))) (rc_z (dg_z cfz_z)))) (M := 194) (by decide) (by omega) (by decide)) rfl rfl rfl ?_
        refine mV hTT (.d (.one (.v (.int .i64 ((dg (faddQ (rc (cfz (min na 10) (cutf 4 fa))) (fsclQ (rc (cfz (min nb 10) (cutf 4 fb))) ((-1 : Int) : Rat))) (max (dg (cfz (min na 10) (cutf 4 fa)) (min na 10)) (dg (cfz (min nb 10) (cutf 4 fb)) (min nb 10))) : Nat) : Int))))) rfl ?_
        refine mV hTT (.d (.one (.v (.bool false)))) (evb (beq_eq_false_iff_ne.2 fun e => hcd ((sub_len (c := (cfz (min na 10) (cutf 4 fa))) (d := (cfz (min nb 10) (cutf 4 fb))) (fsub_z (dg_z cfz_z) (dg_z cfz_z))).1 (by omega)))) ?_
        refine mV hTT (.d (.one (.v (.bool true)))) rfl ?_
        refine mV hTT _ rfl ?_
        refine mV hTT _ rfl ?_
        refine mV hTT _ rfl ?_
        refine mC0 (aPSameB (IsP.le old_le (⟨⟨(cutf 4 fa), fun _ _ _ h => h, (fun i hi => (show cfz (min na 10) (cutf 4 fa) i = fzv (cutf 4 fa) i from if_pos hi).symm)⟩, cfz_z⟩ : IsP (arow 4 (min na 10) (cutf 4 fa)) 4 (min na 10) (cfz (min na 10) (cutf 4 fa)))) (IsP.le old_le (⟨⟨(cutf 4 fa), fun _ _ _ h => h, (fun i hi => (show cfz (min na 10) (cutf 4 fa) i = fzv (cutf 4 fa) i from if_pos hi).symm)⟩, cfz_z⟩ : IsP (arow 4 (min na 10) (cutf 4 fa)) 4 (min na 10) (cfz (min na 10) (cutf 4 fa)))) (r := true) ⟨fun _ _ => rfl, fun _ => rfl⟩ (by omega) (by omega) (by decide) (by decide)) rfl rfl rfl ?_
        refine mV hTT _ rfl ?_
        refine mV hTT _ rfl ?_
        refine mV hTT _ rfl ?_
        refine mV hTT _ rfl ?_
        refine mC0 (ACall.le (dl (DV.l old_le) (dl (DV.l old_le) dl0)) AV.le.rfl (aSamePolyA (K := 4) (L := 4) (n := (min na 10)) (f := (cutf 4 fa)) (by omega) (by decide) (by decide))) rfl rfl rfl ?_
        refine mV hTT _ rfl ?_
        refine mV hTT _ rfl ?_
        refine mV hTT _ rfl ?_
        refine mV hTT _ rfl ?_
        refine mC0 (ACall.le (dl (DV.l old_le) (dl (DV.l old_le) dl0)) AV.le.rfl (aSamePolyA (K := 4) (L := 4) (n := (min nb 10)) (f := (cutf 4 fb)) (by omega) (by decide) (by decide))) rfl rfl rfl ?_
        refine mV hTT _ rfl ?_
        refine mV hTT _ rfl ?_
        refine mC0 (aWakes) rfl rfl rfl ?_
        refine mV hTT _ rfl ?_
        refine mV hTT _ rfl ?_
        refine mNil ?_
        refine tN ?_
        refine cRetK ?_
        exact rQ rfl (AV.le.rfl)

end Go.Proofs.Ytlkdlicbhhackaa

/-
  A SLICE OF INTEGERS THAT CAME IN, AS THE WALKS READ IT ('Rw').
-/
set_option linter.unusedVariables false
set_option linter.unusedSimpArgs false
namespace Go.Proofs.Ytlkdlicbhhackaa
open Go.RowKit

/-- A row that came in (in the words of the rows' shells) is a row as the walks read it: kind k, each from 0 to B - 1. -/
theorem rw_in {k : IntKind} {B : Nat} {w : World} {a : Option Addr} {len cap : Nat} {zs : List Int}
    (h : (a = none ∧ len = 0 ∧ cap = 0 ∧ zs = []) ∨ ∃ x, a = some x ∧ len ≤ cap ∧ cap ≤ maxLen ∧ zs.length = cap ∧ (∀ i, i < zs.length → w.cell? (x.add i) = some (.int k (zs.getD i 0))) ∧ ∀ n ∈ zs, (Lit.int k n).wf = true)
    (hk : ∀ z : Int, (Lit.int k z).wf = true → 0 ≤ z ∧ z < (B : Int)) :
    len ≤ 9223372036854775807 ∧ ∃ xs, Rw k B w a len cap xs := by
  rcases h with ⟨rfl, rfl, rfl, rfl⟩ | ⟨x, rfl, hlc, hcm, hz, hcell, hwf⟩
  · exact ⟨by omega, [], Rw.nil k B w⟩
  · have hm : maxLen = 9223372036854775807 := by decide
    refine ⟨by omega, (zs.take len).map Int.toNat, by rw [List.length_map, List.length_take]; omega, hlc, (fun e => nomatch e), ?_, ?_⟩
    · intro n hn
      obtain ⟨z, hz, rfl⟩ := List.mem_map.1 hn
      have := hk z (hwf z (List.mem_of_mem_take hz))
      omega
    · by_cases h0 : len = 0
      · left; subst h0; rfl
      · right
        obtain ⟨b, off, sp⟩ := x
        have hc0 := hcell 0 (by omega)
        obtain rfl : sp = none := by
          cases sp with
          | none => rfl
          | some s =>
            exfalso
            simp only [Addr.add, if_true, World.cell?] at hc0
            split at hc0 <;> simp_all
        refine ⟨b, off, rfl, fun j hj => ?_⟩
        have hj2 : j < len := by simp [ints] at hj; omega
        have hcj := hcell j (by omega)
        have hzj : zs.getD j 0 = zs[j]'(by omega) := by rw [List.getD_eq_getElem?_getD, List.getElem?_eq_getElem (by omega)]; rfl
        have e1 : (⟨b, off, none⟩ : Addr).add j = ⟨b, off + j, none⟩ := by
          unfold Addr.add
          split
          · next h => subst h; rfl
          · rfl
        rw [e1, hzj] at hcj
        rw [hcj]
        have hw := hk _ (hwf _ (List.getElem_mem (l := zs) (n := j) (by omega)))
        simp only [ints, List.map_map, List.getElem_map, List.getElem_take, Function.comp]
        rw [Int.toNat_of_nonneg hw.1]

theorem wf_u32 (z : Int) (h : (Lit.int .u32 z).wf = true) : 0 ≤ z ∧ z < (B32 : Int) := by
  simp only [Lit.wf, Bool.and_eq_true, decide_eq_true_eq] at h
  have h1 : IntKind.u32.min = 0 := by decide
  have h2 : IntKind.u32.max = 4294967295 := by decide
  have h3 : (B32 : Int) = 4294967296 := by decide
  omega

theorem wf_int {z : Int} (h : (Lit.int .i64 z).wf = true) : -9223372036854775808 ≤ z ∧ z ≤ 9223372036854775807 := by
  simp only [Lit.wf, Bool.and_eq_true, decide_eq_true_eq] at h
  have h1 : IntKind.i64.min = -9223372036854775808 := by decide
  have h2 : IntKind.i64.max = 9223372036854775807 := by decide
  omega

end Go.Proofs.Ytlkdlicbhhackaa

/-
  WHAT COMES IN: rows of limbs, rows of rows, as the walks read them.
-/
set_option linter.unusedVariables false
set_option linter.unusedSimpArgs false
namespace Go.Proofs.Ytlkdlicbhhackaa
open Go.RowKit Go.ChangeShapes Go.WideShapes

section
variable {H : Type} {enc : TypeId × Value → H} {P : Program} {w : World}

/-- A row of limbs that came in. -/
theorem in_u32s {t e : TypeId} {fuel : Nat} {cs : List Value} {x : DataW H × List MemPlace} (ht : P.underlying t = some (.slice e)) (he : P.underlying e = some (.int .u32)) (hc : P.cellsOf e = 1)
    (h : DataW.trod enc P w 0 (fun _ => true) true fuel t cs = some x) :
    ∃ a len cap, cs = [.slice a len cap] ∧ len ≤ 9223372036854775807 ∧ ∃ xs, Rw .u32 B32 w a len cap xs := by
  rcases open_ints ht he hc h with ⟨rfl, _⟩ | ⟨a, l, c, zs, rfl, _, hl, hm, hz, _, hcell, hwz⟩
  · exact ⟨none, 0, 0, rfl, by omega, [], Rw.nil _ _ _⟩
  · exact ⟨some a, l, c, rfl, rw_in (.inr ⟨_, rfl, hl, hm, by simpa using hz, hcell, hwz⟩) wf_u32⟩

/-- A row of rows of limbs that came in: each element is a row of limbs. -/
def InRows (w : World) (ao : Option Addr) (n : Nat) : Prop :=
  ∀ j, j < n → ∃ b off a k d xs, ao = some ⟨b, off, none⟩ ∧ w.cell? ⟨b, off + j, none⟩ = some (.slice a k d) ∧ k ≤ 9223372036854775807 ∧ Rw .u32 B32 w a k d xs

theorem add_plain {b off j : Nat} : (⟨b, off, none⟩ : Addr).add j = ⟨b, off + j, none⟩ := by
  unfold Addr.add
  split
  · next h => subst h; rfl
  · rfl

/-- The address of a cell that can be read has no spot. -/
theorem plain_of_cell {a : Addr} {v : Value} (h : w.cell? (a.add 0) = some v) : ∃ b off, a = ⟨b, off, none⟩ := by
  obtain ⟨b, off, sp⟩ := a
  cases sp with
  | none => exact ⟨b, off, rfl⟩
  | some s =>
    exfalso
    simp only [Addr.add, if_true, World.cell?] at h
    split at h <;> simp_all

theorem in_rows {t e e' : TypeId} {fuel : Nat} {cs : List Value} {x : DataW H × List MemPlace} (ht : P.underlying t = some (.slice e)) (he : P.underlying e = some (.slice e')) (he' : P.underlying e' = some (.int .u32)) (hc : P.cellsOf e = 1) (hc' : P.cellsOf e' = 1)
    (h : DataW.trod enc P w 0 (fun _ => true) true fuel t cs = some x) :
    ∃ a len cap, cs = [.slice a len cap] ∧ len ≤ 9223372036854775807 ∧ len ≤ cap ∧ InRows w a len := by
  rcases Go.Deep.open_slice1 ht hc h with ⟨rfl, _⟩ | ⟨a, len, cap, m, n, V, D, Pl, rfl, _, hl, hm, hmm, _, hx⟩
  · exact ⟨none, 0, 0, rfl, by omega, Nat.le_refl _, fun j hj => absurd hj (by omega)⟩
  · have hmax : maxLen = 9223372036854775807 := by decide
    refine ⟨some a, len, cap, rfl, by omega, hl, fun j hj => ?_⟩
    have hm2 : m = cap := by simpa using hmm
    obtain ⟨b, off, rfl⟩ := plain_of_cell (hx 0 (by omega)).1
    obtain ⟨h1, h2⟩ := hx j (by omega)
    obtain ⟨a', k, d, he1, hk, xs, hr⟩ := in_u32s he he' hc' h2
    rw [add_plain] at h1
    exact ⟨b, off, a', k, d, xs, rfl, by rw [h1]; exact congrArg some (List.cons.inj he1).1, hk, hr⟩

end
end Go.Proofs.Ytlkdlicbhhackaa

/-
  WHAT COMES IN, in the abstract machine's words; a law's answer as the rows ask for it. No condition; nothing of the program.
-/
set_option linter.unusedVariables false
set_option linter.unusedSimpArgs false
namespace Go.Proofs.Ytlkdlicbhhackaa
open Go.RowKit Go.ChangeShapes Go.WideShapes

def nb : BS := fun _ => False
abbrev MX : Nat := 9223372036854775807
theorem am_law {P : Program} {f : FuncId} {args : List DV} (h : ACall P f args (.d (.one (.v (.bool true))))) {w : World} {vs : List Value} (hvs : DsR nb w args vs) : Calls P f vs.toArray w fun e w' => e = .returned (.bool true) ∧ Below w.heap.size w w' :=
  (h.go nb w vs (fun _ h => h.elim) hvs).mono fun e w' ⟨v, he, hb, hv⟩ => ⟨by have h1 : v = .bool true := (show LfR nb w' (.v (.bool true)) v from hv).1; rw [he, h1], hb⟩

section
variable {H : Type} {enc : TypeId × Value → H} {P : Program} {w : World}
theorem am_lim {t e : TypeId} {fuel : Nat} {cs : List Value} {x : DataW H × List MemPlace} (ht : P.underlying t = some (.slice e)) (he : P.underlying e = some (.int .u32)) (hc : P.cellsOf e = 1)
    (h : DataW.trod enc P w 0 (fun _ => true) true fuel t cs = some x) : ∃ v xs, cs = [v] ∧ LfR nb w (lr MX xs) v := by
  obtain ⟨a, len, cap, e1, hl, xs, hr⟩ := in_u32s ht he hc h
  exact ⟨_, xs, e1, lr_R hr hl (fun _ _ _ h => h.elim)⟩
theorem am_int {r : Reach} {b0 : Nat} {t e : TypeId} {f0 f1 : Field} {v : Value} {d : DataW H} {p : List MemPlace} (hs : P.underlying t = some (.struct #[f0, f1])) (hone : Deep.oneCellFields P #[f0, f1] = true) (hC : P.cellsOf t = 2)
    (h0 : P.underlying f0.type = some .bool) (h1 : P.underlying f1.type = some (.slice e)) (he : P.underlying e = some (.int .u32)) (hc : P.cellsOf e = 1)
    (hv : Value.okWide P w r b0 t v) (h : DataW.Trod enc P w 0 (fun _ => true) true t v d p) :
    ∃ s xs, DR nb w (.agg [.v (.bool s), lr MX xs]) v := by
  obtain ⟨v0, v1, y0, y1, m, rfl, _, _, k0, k1⟩ := Joins.open_agg2 hs hone hC hv h
  obtain ⟨v1', xs, e1, hr⟩ := am_lim h1 he hc k1
  obtain ⟨s, e0⟩ : ∃ s, v0 = .bool s := by
    obtain ⟨b', hb, _⟩ := DataW.trod_bool h0 k0
    exact ⟨b', (List.cons.inj hb).1⟩
  subst e0
  obtain rfl := (List.cons.inj e1).1
  exact ⟨s, xs, _, rfl, ⟨rfl, rfl⟩, hr, trivial⟩
theorem am_pol {t e u : TypeId} {f0 f1 : Field} {fuel : Nat} {cs : List Value} {x : DataW H × List MemPlace} (ht : P.underlying t = some (.slice e)) (hs : P.underlying e = some (.struct #[f0, f1])) (hC : P.cellsOf e = 2)
    (ho : f0.offset = 0 ∧ f1.offset = 1 ∧ P.cellsOf f0.type = 1 ∧ P.cellsOf f1.type = 1)
    (h0 : P.underlying f0.type = some .bool) (h1 : P.underlying f1.type = some (.slice u)) (hu : P.underlying u = some (.int .u32)) (hc : P.cellsOf u = 1)
    (h : DataW.trod enc P w 0 (fun _ => true) true fuel t cs = some x) : ∃ v n f, cs = [v] ∧ LfR nb w (arow MX n f) v := by
  obtain ⟨o0, o1, k0, k1⟩ := ho
  rcases Go.Deep.open_slice ht h with ⟨hcs, _⟩ | ⟨a, len, cap, m, n, D, Pl, hcs, _, hl, hm, hmm, _, hx⟩
  · exact ⟨_, 0, fun _ => (false, []), hcs, none, 0, rfl, Nat.le_refl _, fun _ => rfl, fun i hi => absurd hi (Nat.not_lt_zero _)⟩
  · have hmax : maxLen = 9223372036854775807 := by decide
    have hm2 : m = cap := by simpa using hmm
    have key : ∀ j, j < len → ∃ F : Bool × List Nat, ∃ b off v1, a = ⟨b, off, none⟩ ∧ w.cell? ⟨b, off + j * 2, none⟩ = some (.bool F.1) ∧ w.cell? ⟨b, off + j * 2 + 1, none⟩ = some v1 ∧ LfR nb w (lr MX F.2) v1 := by
      intro j hj
      have hfirst : ∃ v0, w.cell? (a.add 0) = some v0 := by
        obtain ⟨cs, h2, _⟩ := hx 0 (by omega)
        rw [hC] at h2
        obtain ⟨_, hlen, hcell⟩ := World.cells?_some h2
        have h3 := hcell 0 (by omega)
        rw [Nat.zero_mul, show (a.add 0).add 0 = a.add 0 by simp [Addr.add]] at h3
        exact ⟨_, h3.trans (List.getElem?_eq_getElem (by omega))⟩
      obtain ⟨v0, hv0⟩ := hfirst
      obtain ⟨b, off, rfl⟩ := plain_of_cell hv0
      obtain ⟨cs, h2, h3⟩ := hx j (by omega)
      rw [hC] at h2
      obtain ⟨_, hlen, hcell⟩ := World.cells?_some h2
      obtain ⟨y0, y1, q, _, _, t0, t1⟩ := trod_struct2 hs h3
      match cs, hlen with
      | [c0, c1], _ =>
        rw [o0, k0] at t0
        rw [o1, k1] at t1
        obtain ⟨s, hb, _⟩ := DataW.trod_bool h0 t0
        obtain ⟨v1, xs, e1, hr⟩ := am_lim h1 hu hc t1
        obtain rfl : c0 = .bool s := (List.cons.inj hb).1
        obtain rfl : c1 = v1 := (List.cons.inj e1).1
        have g0 := hcell 0 (by simp)
        have g1 := hcell 1 (by simp)
        rw [add_plain, add_plain] at g0 g1
        exact ⟨(s, xs), b, off, c1, rfl, g0, g1, hr⟩
    refine ⟨_, len, fun j => if h : j < len then (key j h).choose else (false, []), hcs, some a, cap, rfl, hl, (fun e => nomatch e), fun j hj => ?_⟩
    obtain ⟨b, off, v1, rfl, h2, h3, h4⟩ := (key j hj).choose_spec
    refine ⟨b, off, rfl, fun h => h.elim, World.block_lt_of_cell? w _ h2, fun q hq => ?_⟩
    match q, hq with
    | 0, _ =>
      refine ⟨_, h2, ?_⟩
      show LfR nb w (.v (.bool (if h : j < len then (key j h).choose else (false, [])).1)) _
      rw [dif_pos hj]; exact ⟨rfl, rfl⟩
    | 1, _ =>
      refine ⟨_, h3, ?_⟩
      show LfR nb w (lr MX (if h : j < len then (key j h).choose else (false, [])).2) _
      rw [dif_pos hj]; exact h4
theorem am_pols {t s e u : TypeId} {f0 f1 : Field} {fuel : Nat} {cs : List Value} {x : DataW H × List MemPlace} (hts : P.underlying t = some (.slice s)) (hcs1 : P.cellsOf s = 1) (ht : P.underlying s = some (.slice e)) (hs : P.underlying e = some (.struct #[f0, f1])) (hC : P.cellsOf e = 2)
    (ho : f0.offset = 0 ∧ f1.offset = 1 ∧ P.cellsOf f0.type = 1 ∧ P.cellsOf f1.type = 1)
    (h0 : P.underlying f0.type = some .bool) (h1 : P.underlying f1.type = some (.slice u)) (hu : P.underlying u = some (.int .u32)) (hc : P.cellsOf u = 1)
    (h : DataW.trod enc P w 0 (fun _ => true) true fuel t cs = some x) : ∃ v n ns fs, cs = [v] ∧ LfR nb w (prows MX n ns fs) v := by
  rcases Go.Deep.open_slice1 hts hcs1 h with ⟨rfl, _⟩ | ⟨a, len, cap, m, n, V, D, Pl, rfl, _, hl, hm, hmm, _, hx⟩
  · exact ⟨_, 0, fun _ => 0, fun _ _ => (false, []), rfl, none, 0, rfl, Nat.le_refl _, fun _ => rfl, fun i hi => absurd hi (Nat.not_lt_zero _)⟩
  · have hm2 : m = cap := by simpa using hmm
    have key : ∀ j, j < len → ∃ F : Nat × (Nat → Bool × List Nat), ∃ b off v1, a = ⟨b, off, none⟩ ∧ w.cell? ⟨b, off + j, none⟩ = some v1 ∧ LfR nb w (arow MX F.1 F.2) v1 := by
      intro j hj
      obtain ⟨b, off, rfl⟩ := plain_of_cell (hx 0 (by omega)).1
      obtain ⟨h1', h2⟩ := hx j (by omega)
      obtain ⟨v, n', f, e1, hr⟩ := am_pol ht hs hC ho h0 h1 hu hc h2
      rw [add_plain] at h1'
      obtain e2 := (List.cons.inj e1).1
      exact ⟨(n', f), b, off, v, rfl, by rw [h1', e2], hr⟩
    refine ⟨_, len, fun j => if h : j < len then (key j h).choose.1 else 0, fun j => if h : j < len then (key j h).choose.2 else fun _ => (false, []), rfl, some a, cap, rfl, hl, (fun e => nomatch e), fun j hj => ?_⟩
    obtain ⟨b, off, v1, rfl, h2, h4⟩ := (key j hj).choose_spec
    refine ⟨b, off, rfl, fun h => h.elim, World.block_lt_of_cell? w _ h2, fun q hq => ?_⟩
    obtain rfl : q = 0 := by omega
    refine ⟨_, by rw [Nat.mul_one, Nat.add_zero]; exact h2, ?_⟩
    show LfR nb w (arow MX (if h : j < len then (key j h).choose.1 else 0) (if h : j < len then (key j h).choose.2 else fun _ => (false, []))) _
    rw [dif_pos hj, dif_pos hj]; exact h4
theorem am_i64s {t e : TypeId} {fuel : Nat} {cs : List Value} {x : DataW H × List MemPlace} (ht : P.underlying t = some (.slice e)) (he : P.underlying e = some (.int .i64)) (hc : P.cellsOf e = 1)
    (h : DataW.trod enc P w 0 (fun _ => true) true fuel t cs = some x) : ∃ v n c, cs = [v] ∧ LfR nb w (irow n c) v ∧ ∀ i, i < n → -9223372036854775808 ≤ c i ∧ c i ≤ 9223372036854775807 := by
  rcases open_ints ht he hc h with ⟨rfl, _⟩ | ⟨a, l, c, zs, rfl, _, hl, hm, hz, _, hcell, hwz⟩
  · exact ⟨_, 0, fun _ => 0, rfl, ⟨none, 0, rfl, Nat.le_refl _, fun _ => rfl, fun i hi => absurd hi (Nat.not_lt_zero _)⟩, fun i hi => absurd hi (Nat.not_lt_zero _)⟩
  · have hz' : zs.length = c := by simpa using hz
    refine ⟨_, l, fun i => zs.getD i 0, rfl, ⟨some a, c, rfl, hl, (fun e => nomatch e), fun i hi => ?_⟩, fun i hi => ?_⟩
    · have h0 := hcell 0 (by omega)
      obtain ⟨b, off, rfl⟩ := plain_of_cell h0
      have h1 := hcell i (by omega)
      rw [add_plain] at h1
      refine ⟨b, off, rfl, fun h => h.elim, World.block_lt_of_cell? w _ h1, fun q hq => ?_⟩
      obtain rfl : q = 0 := by omega
      exact ⟨_, by rw [Nat.mul_one, Nat.add_zero]; exact h1, rfl, rfl⟩
    · have hi' : i < zs.length := by omega
      show _ ≤ zs.getD i 0 ∧ zs.getD i 0 ≤ _
      rw [List.getD_eq_getElem?_getD, List.getElem?_eq_getElem hi']
      exact wf_int (hwz _ (List.getElem_mem hi'))
theorem slice_cells {a : Option Addr} {n c : Nat} : (Value.slice a n c).cells.toList = [.slice a n c] := by simp [Value.cells]
theorem am_polT {r : Reach} {b0 : Nat} {d : DataW H} {p : List MemPlace} {v : Value} {t e u : TypeId} {f0 f1 : Field} (ht : P.underlying t = some (.slice e)) (hs : P.underlying e = some (.struct #[f0, f1])) (hC : P.cellsOf e = 2)
    (ho : f0.offset = 0 ∧ f1.offset = 1 ∧ P.cellsOf f0.type = 1 ∧ P.cellsOf f1.type = 1)
    (h0 : P.underlying f0.type = some .bool) (h1 : P.underlying f1.type = some (.slice u)) (hu : P.underlying u = some (.int .u32)) (hc : P.cellsOf u = 1)
    (hv : Value.okWide P w r b0 t v) (h : DataW.Trod enc P w 0 (fun _ => true) true t v d p) : ∃ n f, LfR nb w (arow MX n f) v := by
  obtain ⟨a, len, cap, rfl⟩ := okWide_slice ht hv
  obtain ⟨fuel, hf⟩ := h
  rw [slice_cells] at hf
  obtain ⟨v', n, f, e1, h2⟩ := am_pol ht hs hC ho h0 h1 hu hc hf
  obtain rfl := (List.cons.inj e1).1
  exact ⟨n, f, h2⟩
theorem am_polsT {r : Reach} {b0 : Nat} {d : DataW H} {p : List MemPlace} {v : Value} {t s e u : TypeId} {f0 f1 : Field} (hts : P.underlying t = some (.slice s)) (hcs1 : P.cellsOf s = 1) (ht : P.underlying s = some (.slice e)) (hs : P.underlying e = some (.struct #[f0, f1])) (hC : P.cellsOf e = 2)
    (ho : f0.offset = 0 ∧ f1.offset = 1 ∧ P.cellsOf f0.type = 1 ∧ P.cellsOf f1.type = 1)
    (h0 : P.underlying f0.type = some .bool) (h1 : P.underlying f1.type = some (.slice u)) (hu : P.underlying u = some (.int .u32)) (hc : P.cellsOf u = 1)
    (hv : Value.okWide P w r b0 t v) (h : DataW.Trod enc P w 0 (fun _ => true) true t v d p) : ∃ n ns fs, LfR nb w (prows MX n ns fs) v := by
  obtain ⟨a, len, cap, rfl⟩ := okWide_slice hts hv
  obtain ⟨fuel, hf⟩ := h
  rw [slice_cells] at hf
  obtain ⟨v', n, ns, fs, e1, h2⟩ := am_pols hts hcs1 ht hs hC ho h0 h1 hu hc hf
  obtain rfl := (List.cons.inj e1).1
  exact ⟨n, ns, fs, h2⟩
theorem am_i64sT {r : Reach} {b0 : Nat} {d : DataW H} {p : List MemPlace} {v : Value} {t e : TypeId} (ht : P.underlying t = some (.slice e)) (he : P.underlying e = some (.int .i64)) (hc : P.cellsOf e = 1)
    (hv : Value.okWide P w r b0 t v) (h : DataW.Trod enc P w 0 (fun _ => true) true t v d p) : ∃ n c, LfR nb w (irow n c) v ∧ ∀ i, i < n → -9223372036854775808 ≤ c i ∧ c i ≤ 9223372036854775807 := by
  obtain ⟨a, len, cap, rfl⟩ := okWide_slice ht hv
  obtain ⟨fuel, hf⟩ := h
  rw [slice_cells] at hf
  obtain ⟨v', n, c, e1, h2⟩ := am_i64s ht he hc hf
  obtain rfl := (List.cons.inj e1).1
  exact ⟨n, c, h2⟩
end
end Go.Proofs.Ytlkdlicbhhackaa

