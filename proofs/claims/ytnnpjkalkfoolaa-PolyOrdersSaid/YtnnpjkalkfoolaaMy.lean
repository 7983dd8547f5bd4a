/-
  POLYNOMIALS, by the machine (3): the program's.
-/
import Derived.Test.YtnnpjkalkfoolaaMx
set_option linter.unusedVariables false
set_option linter.unusedSimpArgs false
namespace Go.Proofs.Ytnnpjkalkfoolaa
open Go.RowKit

def upd (c : Nat → Int) (i : Nat) : Nat → Int := fun p => if p < i then c p else 0
theorem upd_self {c : Nat → Int} {i : Nat} : c i = upd c (i + 1) i := (if_pos (Nat.lt_succ_self i)).symm
theorem upd_ne {c : Nat → Int} {i p : Nat} (h : p ≠ i) : upd c i p = upd c (i + 1) p := by
  unfold upd
  by_cases h1 : p < i
  · rw [if_pos h1, if_pos (by omega)]
  · rw [if_neg h1, if_neg (by omega)]
theorem fx_pos {n k : Nat} {f : Nat → Bool × List Nat} (h : k < n) : fx n f k = f k := if_pos h
theorem fx_neg {n k : Nat} {f : Nat → Bool × List Nat} (h : ¬ k < n) : fx n f k = (false, []) := if_neg h
theorem nil_at {K : Nat} : AV.le (.d (.agg [.v (.bool false), .v (.slice none 0 0)])) (.d (.agg [.v (.bool false), lr K []])) := le_agg fun B w cs h => match cs, h with | [_, _], ⟨h1, h2, h3⟩ => ⟨h1, nil_lr K (fun _ => none) B w _ h2, h3⟩
set_option maxRecDepth 100000 in
set_option maxHeartbeats 4000000 in
theorem aPAt {K n k : Nat} {f : Nat → Bool × List Nat} : ACall Try.prog 89 [.one (arow K n f), .one (.v (.int .i64 (k : Int)))] (.d (.agg [.v (.bool (fx n f k).1), lr K (fx n f k).2])) := by
  refine acallN hTT 14 [.cell 4 26] Try.func89 rfl rfl rfl rfl rfl ?_
  refine cSeq ?_
  refine cReg ?_
  refine mN hTT (.box 26 ([.v (.bool false), .v (.slice none 0 0)])) rfl rfl rfl ?_
  refine mNil ?_
  refine tN ?_
  refine cSeq ?_
  refine cSeq ?_
  refine cReg ?_
  refine mV hTT _ rfl ?_
  refine mV hTT _ rfl ?_
  refine mV hTT (.d (.one (.v (.int .i64 (n : Int))))) rfl ?_
  refine mV hTT (.d (.one (.v (.bool (decide ((k : Int) < (n : Int))))))) rfl ?_
  refine mNil ?_
  refine tN ?_
  refine cCond rfl (fun hc1 => ?_) (fun hc1 => ?_)
  · skip
    refine cSeq ?_
    have hkn : k < n := by have h0 := of_decide_eq_true hc1; omega
    refine cReg ?_
    refine mV hTT _ rfl ?_
    refine mV hTT _ rfl ?_
    refine mV hTT (.d (.one (.at 2 ((ael K f) k)))) (ixR (el := (ael K f)) (z := (k : Int)) (n := n) rfl rfl rfl rfl rfl rfl (by omega) (by omega)) ?_
    refine mV hTT (.d (.agg ([.v (.bool ((f k).1)), lr K ((f k).2)]))) rfl ?_
    refine mS hTT 4 (.box 26 ([.v (.bool ((f k).1)), lr K ((f k).2)])) rfl ?_
    refine mNil ?_
    refine tN ?_
    refine cRet ?_
    refine tR ?_
    exact rQ rfl (by rw [fx_pos (by have h0 := of_decide_eq_true hc1; omega)]; exact AV.le.rfl)
  · skip
    refine cSkip ?_
    refine tN ?_
    refine cSeq ?_
    refine cReg ?_
    refine mV hTT (.d (.agg ([.v (.bool false), .v (.slice none 0 0)]))) rfl ?_
    refine mS hTT 4 (.box 26 ([.v (.bool false), .v (.slice none 0 0)])) rfl ?_
    refine mNil ?_
    refine tN ?_
    refine cRet ?_
    exact rQ rfl (by rw [fx_neg (by have h0 := of_decide_eq_false hc1; omega)]; exact nil_at)

set_option maxRecDepth 100000 in
set_option maxHeartbeats 4000000 in
theorem aEach {f : FuncId} {nc : Nat} {caps : Nat → Lf} {n K : Nat} {c : Nat → Int} (hf : ∀ i, i < n → ACall Try.prog f (.one (.v (.int .i64 (i : Int))) :: capsD caps 0 nc) (.d (.agg (zn K (c i))))) (hn : n ≤ 1000000 := by decide) : ACall Try.prog 84 [.one (.v (.int .i64 (n : Int))), .one (.fn f nc caps)] (.d (.one (prow K (dg c n) c))) := by
  refine acallN hTT 23 [.tmp 4] Try.func84 rfl rfl rfl rfl rfl ?_
  refine cSeq ?_
  refine cReg ?_
  refine mV hTT _ rfl ?_
  refine mNil ?_
  refine tN ?_
  refine cSeq ?_
  refine cReg ?_
  refine mV hTT _ rfl ?_
  refine mN hTT (.row 26 2 n (fun _ j => .v ((([Value.bool false, Value.slice none 0 0] : List Value)[j]?).getD undef))) (mkO (zl := (n : Int)) (zc := (n : Int)) (bts := 32) rfl rfl rfl rfl rfl (by omega) (by omega) rfl rfl rfl (by omega) (by omega) rfl) rfl rfl ?_
  refine mV hTT _ rfl ?_
  refine mNil ?_
  refine tN ?_
  refine cSeq ?_
  refine cSeq ?_
  refine cReg ?_
  refine mV hTT _ rfl ?_
  refine mV hTT (.d (.one (.v (.int .i64 (n : Int))))) rfl ?_
  refine mV hTT _ rfl ?_
  refine mNil ?_
  refine tN ?_
  refine cBlock ?_
  refine cLoop (ι := Nat) (fun (i : Nat) => ⟨23, [(1, .d (.one (.fn f nc caps))), (10, .d (.one (.v (.int .i64 (n : Int))))), (11, .d (.one (.v (.int .i64 ((i : Nat) : Int))))), (5, .own 8)], [(8, .row 26 2 n (zel K (upd c i)))]⟩) (fun (i : Nat) => i ≤ n) (fun (i : Nat) => n - i) 0 (Nat.zero_le _) (wk (sl := [(1, .d (.one (.fn f nc caps))), (10, .d (.one (.v (.int .i64 (n : Int))))), (11, .d (.one (.v (.int .i64 ((0 : Nat) : Int))))), (5, .own 8)]) (hp := [(8, .row 26 2 n (zel K (upd c 0)))]) rfl ⟨hs rfl, hs rfl, hs rfl, hs rfl, trivial⟩ ⟨ho' rfl (leo_zero (fun i _ => if_neg (Nat.not_lt_zero _))), trivial⟩ rfl) ?_
  rintro i hI
  have hi : i ≤ n := hI
  show AW Try.prog _ _ ⟨23, [(1, .d (.one (.fn f nc caps))), (10, .d (.one (.v (.int .i64 (n : Int))))), (11, .d (.one (.v (.int .i64 ((i : Nat) : Int))))), (5, .own 8)], [(8, .row 26 2 n (zel K (upd c i)))]⟩
  refine cSeq ?_
  refine cReg ?_
  refine mV hTT (.d (.one (.v (.bool (decide (((i : Nat) : Int) < (n : Int))))))) rfl ?_
  refine mNil ?_
  refine tN ?_
  refine cSeq ?_
  refine cCond rfl (fun hc1 => ?_) (fun hc1 => ?_)
  · skip
    refine cSkip ?_
    refine tN ?_
    refine cSeq ?_
    refine cBlock ?_
    refine cSeq ?_
    refine cReg ?_
    refine mV hTT _ rfl ?_
    refine mV hTT _ rfl ?_
    refine mNil ?_
    refine tN ?_
    have hin : i < n := by have h0 := of_decide_eq_true hc1; omega
    refine cReg ?_
    refine mV hTT _ rfl ?_
    refine mV hTT _ rfl ?_
    refine mV hTT _ rfl ?_
    refine mV hTT _ rfl ?_
    refine mC (hf i hin) rfl rfl rfl ?_
    refine mV hTT (.eptr 8 2 i 0) (ixO (z := ((i : Nat) : Int)) (n := n) rfl rfl rfl rfl rfl rfl rfl (by omega) (by omega)) ?_
    refine mS hTT 8 (.row 26 2 n (fun p' q' => if p' = i then ((zn K (c i))[q']?).getD (.v undef) else (zel K (upd c i)) p' q')) rfl ?_
    refine mNil ?_
    refine bN ?_
    refine tN ?_
    refine cReg ?_
    refine mV hTT (.d (.one (.v (.int .i64 (IntKind.i64.wrap (((i : Nat) : Int) + 1)))))) rfl ?_
    refine mV hTT _ rfl ?_
    refine mNil ?_
    exact ⟨(i + 1), by omega, by omega, wk (sl := [(1, .d (.one (.fn f nc caps))), (10, .d (.one (.v (.int .i64 (n : Int))))), (11, .d (.one (.v (.int .i64 (((i + 1) : Nat) : Int))))), (5, .own 8)]) (hp := [(8, .row 26 2 n (zel K (upd c (i + 1))))]) rfl ⟨hs rfl, hs rfl, hs' rfl (le_int (inc64 (by omega))), hs rfl, trivial⟩ ⟨ho' rfl (st_z (Nat.le_refl _) (Nat.le_refl _) upd_self (fun p _ hp => upd_ne hp)), trivial⟩ rfl⟩
  · skip
    refine cExit ?_
    refine tE ?_
    refine tE ?_
    refine bE ?_
    refine tN ?_
    refine cSeq ?_
    have hie : n = i := by have h0 := of_decide_eq_false hc1; omega
    subst hie
    refine AW.wk (wkRow 8 rfl) ?_
    refine cView 5 (.d (.one (.row 2 n (zel K c)))) rfl (le_one (prow_le (Nat.le_refl _) (fun i hi => if_pos hi))) ?_
    refine cReg ?_
    refine mV hTT _ rfl ?_
    refine mC0 (aPCut (K := K) (n := n) (c := c) (by omega)) rfl rfl rfl ?_
    refine mV hTT _ rfl ?_
    refine mNil ?_
    refine tN ?_
    refine cRet ?_
    exact rQ rfl (AV.le.rfl)

set_option maxRecDepth 100000 in
set_option maxHeartbeats 4000000 in
theorem aPAdd1 {K L M n m k : Nat} {fa fb : Nat → Bool × List Nat} {c d : Nat → Int} (ea : ∀ i, i < n → fzv fa i = c i) (za : ∀ i, n ≤ i → c i = 0) (eb : ∀ i, i < m → fzv fb i = d i) (zb : ∀ i, m ≤ i → d i = 0) (hM : max K L + 1 ≤ M) (hMM : M ≤ 1000000000) : ACall Try.prog 88 [.one (.v (.int .i64 (k : Int))), .one (.at 1 (fun q => (([.row 2 n (ael K fa)] : List Lf)[0 + q]?).getD (.v undef))), .one (.at 1 (fun q => (([.row 2 m (ael L fb)] : List Lf)[0 + q]?).getD (.v undef)))] (.d (.agg (zn M (fadd c d k)))) := by
  refine acallN hTT 12 [.cell 4 26] Try.func88 rfl rfl rfl rfl rfl ?_
  refine cSeq ?_
  refine cReg ?_
  refine mN hTT (.box 26 ([.v (.bool false), .v (.slice none 0 0)])) rfl rfl rfl ?_
  refine mNil ?_
  refine tN ?_
  refine cSeq ?_
  refine cDrawK hTT 7 (by kernel_rfl) (by kernel_rfl) ?_
  refine .cons (OpS.V (.d (.one (.row 2 n (ael K fa)))) rfl) ?_
  refine .cons (OpS.V _ rfl) ?_
  refine .cons (OpS.C0 (aPAt (K := K) (n := n) (f := fa) (k := k)) rfl rfl rfl) ?_
  refine .cons (OpS.V (.d (.one (.row 2 m (ael L fb)))) rfl) ?_
  refine .cons (OpS.V _ rfl) ?_
  refine .cons (OpS.C0 (aPAt (K := L) (n := m) (f := fb) (k := k)) rfl rfl rfl) ?_
  refine .cons (OpS.C0 (aAdd ⟨_, _, fun _ _ _ h => h, fx_z ea za⟩ ⟨_, _, fun _ _ _ h => h, fx_z eb zb⟩ (M := (max K L + 1)) (by omega) (by omega) (by omega)) rfl rfl rfl) ?_
  refine .nil ?_
  refine mS hTT 4 (.box 26 (zn (max K L + 1) ((c k) + (d k)))) rfl ?_
  refine mNil ?_
  refine tN ?_
  refine cRet ?_
  exact rQ rfl (le_zn hM rfl)

set_option maxRecDepth 100000 in
set_option maxHeartbeats 4000000 in
theorem aPAdd {a b : Lf} {K L M n m : Nat} {c d : Nat → Int} (ha : IsP a K n c) (hb : IsP b L m d) (hM : max K L + 1 ≤ M := by decide) (hn : max n m ≤ 1000000 := by decide) (hMM : M ≤ 1000000000 := by decide) : ACall Try.prog 30 [.one a, .one b] (.d (.one (prow M (dg (fadd c d) (max n m)) (fadd c d)))) := by
  obtain ⟨⟨fa, ha, ea⟩, za⟩ := ha
  obtain ⟨⟨fb, hb, eb⟩, zb⟩ := hb
  refine ACall.le (dl (DV.l ha) (dl (DV.l hb) dl0)) AV.le.rfl ?_
  refine acallN hTT 12 [.tmp 4] Try.func30 rfl rfl rfl rfl rfl ?_
  refine cSeq ?_
  refine cReg ?_
  refine mN hTT (.box 23 ([.row 2 n (ael K fa)])) rfl rfl rfl ?_
  refine mN hTT (.box 23 ([.row 2 m (ael L fb)])) rfl rfl rfl ?_
  refine mV hTT _ rfl ?_
  refine mNil ?_
  refine tN ?_
  refine cSeq ?_
  refine AW.wk (wkBox 2 rfl) ?_
  refine AW.wk (wkBox 3 rfl) ?_
  refine cReg ?_
  refine mV hTT (.d (.one (.row 2 n (ael K fa)))) rfl ?_
  refine mV hTT (.d (.one (.v (.int .i64 (n : Int))))) rfl ?_
  refine mV hTT (.d (.one (.row 2 m (ael L fb)))) rfl ?_
  refine mV hTT (.d (.one (.v (.int .i64 (m : Int))))) rfl ?_
  refine mV hTT (.d (.one (.v (.int .i64 ((max n m : Nat) : Int))))) (evi (maxNN n m)) ?_
  refine mV hTT _ rfl ?_
  refine mC0 (aEach (n := (max n m)) (K := M) (c := (fadd c d)) (fun i hi => aPAdd1 ea za eb zb hM hMM) (by omega)) rfl rfl rfl ?_
  refine mV hTT _ rfl ?_
  refine mNil ?_
  refine tN ?_
  refine cRet ?_
  exact rQ rfl (AV.le.rfl)

set_option maxRecDepth 100000 in
set_option maxHeartbeats 4000000 in
theorem aPSub1 {K L M n m k : Nat} {fa fb : Nat → Bool × List Nat} {c d : Nat → Int} (ea : ∀ i, i < n → fzv fa i = c i) (za : ∀ i, n ≤ i → c i = 0) (eb : ∀ i, i < m → fzv fb i = d i) (zb : ∀ i, m ≤ i → d i = 0) (hM : max K L + 1 ≤ M) (hMM : M ≤ 1000000000) : ACall Try.prog 90 [.one (.v (.int .i64 (k : Int))), .one (.at 1 (fun q => (([.row 2 n (ael K fa)] : List Lf)[0 + q]?).getD (.v undef))), .one (.at 1 (fun q => (([.row 2 m (ael L fb)] : List Lf)[0 + q]?).getD (.v undef)))] (.d (.agg (zn M (fsub c d k)))) := by
  refine acallN hTT 12 [.cell 4 26] Try.func90 rfl rfl rfl rfl rfl ?_
  refine cSeq ?_
  refine cReg ?_
  refine mN hTT (.box 26 ([.v (.bool false), .v (.slice none 0 0)])) rfl rfl rfl ?_
  refine mNil ?_
  refine tN ?_
  refine cSeq ?_
  refine cDrawK hTT 7 (by kernel_rfl) (by kernel_rfl) ?_
  refine .cons (OpS.V (.d (.one (.row 2 n (ael K fa)))) rfl) ?_
  refine .cons (OpS.V _ rfl) ?_
  refine .cons (OpS.C0 (aPAt (K := K) (n := n) (f := fa) (k := k)) rfl rfl rfl) ?_
  refine .cons (OpS.V (.d (.one (.row 2 m (ael L fb)))) rfl) ?_
  refine .cons (OpS.V _ rfl) ?_
  refine .cons (OpS.C0 (aPAt (K := L) (n := m) (f := fb) (k := k)) rfl rfl rfl) ?_
  refine .cons (OpS.C0 (aSub ⟨_, _, fun _ _ _ h => h, fx_z ea za⟩ ⟨_, _, fun _ _ _ h => h, fx_z eb zb⟩ (M := (max K L + 1)) (by omega) (by omega) (by omega)) rfl rfl rfl) ?_
  refine .nil ?_
  refine mS hTT 4 (.box 26 (zn (max K L + 1) ((c k) - (d k)))) rfl ?_
  refine mNil ?_
  refine tN ?_
  refine cRet ?_
  exact rQ rfl (le_zn hM rfl)

set_option maxRecDepth 100000 in
set_option maxHeartbeats 4000000 in
theorem aPSub {a b : Lf} {K L M n m : Nat} {c d : Nat → Int} (ha : IsP a K n c) (hb : IsP b L m d) (hM : max K L + 1 ≤ M := by decide) (hn : max n m ≤ 1000000 := by decide) (hMM : M ≤ 1000000000 := by decide) : ACall Try.prog 32 [.one a, .one b] (.d (.one (prow M (dg (fsub c d) (max n m)) (fsub c d)))) := by
  obtain ⟨⟨fa, ha, ea⟩, za⟩ := ha
  obtain ⟨⟨fb, hb, eb⟩, zb⟩ := hb
  refine ACall.le (dl (DV.l ha) (dl (DV.l hb) dl0)) AV.le.rfl ?_
  refine acallN hTT 12 [.tmp 4] Try.func32 rfl rfl rfl rfl rfl ?_
  refine cSeq ?_
  refine cReg ?_
  refine mN hTT (.box 23 ([.row 2 n (ael K fa)])) rfl rfl rfl ?_
  refine mN hTT (.box 23 ([.row 2 m (ael L fb)])) rfl rfl rfl ?_
  refine mV hTT _ rfl ?_
  refine mNil ?_
  refine tN ?_
  refine cSeq ?_
  refine AW.wk (wkBox 2 rfl) ?_
  refine AW.wk (wkBox 3 rfl) ?_
  refine cReg ?_
  refine mV hTT (.d (.one (.row 2 n (ael K fa)))) rfl ?_
  refine mV hTT (.d (.one (.v (.int .i64 (n : Int))))) rfl ?_
  refine mV hTT (.d (.one (.row 2 m (ael L fb)))) rfl ?_
  refine mV hTT (.d (.one (.v (.int .i64 (m : Int))))) rfl ?_
  refine mV hTT (.d (.one (.v (.int .i64 ((max n m : Nat) : Int))))) (evi (maxNN n m)) ?_
  refine mV hTT _ rfl ?_
  refine mC0 (aEach (n := (max n m)) (K := M) (c := (fsub c d)) (fun i hi => aPSub1 ea za eb zb hM hMM) (by omega)) rfl rfl rfl ?_
  refine mV hTT _ rfl ?_
  refine mNil ?_
  refine tN ?_
  refine cRet ?_
  exact rQ rfl (AV.le.rfl)

set_option maxRecDepth 100000 in
set_option maxHeartbeats 4000000 in
theorem aPNeg1 {K n k : Nat} {fa : Nat → Bool × List Nat} {c : Nat → Int} (ea : ∀ i, i < n → fzv fa i = c i) (hk : k < n) (hK : K ≤ 1000000000) : ACall Try.prog 92 [.one (.v (.int .i64 (k : Int))), .one (.at 1 (fun q => (([.row 2 n (ael K fa)] : List Lf)[0 + q]?).getD (.v undef)))] (.d (.agg (zn K (fneg c k)))) := by
  refine acallN hTT 9 [.cell 3 26] Try.func92 rfl rfl rfl rfl rfl ?_
  refine cSeq ?_
  refine cReg ?_
  refine mN hTT (.box 26 ([.v (.bool false), .v (.slice none 0 0)])) rfl rfl rfl ?_
  refine mNil ?_
  refine tN ?_
  refine cSeq ?_
  refine cReg ?_
  refine mV hTT (.d (.one (.row 2 n (ael K fa)))) rfl ?_
  refine mV hTT _ rfl ?_
  refine mV hTT (.d (.one (.at 2 ((ael K fa) k)))) (ixR (el := (ael K fa)) (z := (k : Int)) (n := n) rfl rfl rfl rfl rfl rfl (by omega) (by omega)) ?_
  refine mV hTT (.d (.agg ([.v (.bool ((fa k).1)), lr K ((fa k).2)]))) rfl ?_
  refine mC0 (aNeg ⟨_, _, fun _ _ _ h => h, ea k (by omega)⟩ (by omega)) rfl rfl rfl ?_
  refine mS hTT 3 (.box 26 (zn K (-(c k)))) rfl ?_
  refine mNil ?_
  refine tN ?_
  refine cRet ?_
  exact rQ rfl (le_zn (Nat.le_refl _) rfl)

set_option maxRecDepth 100000 in
set_option maxHeartbeats 4000000 in
theorem aPNeg {a : Lf} {K n : Nat} {c : Nat → Int} (ha : IsP a K n c) (hn : n ≤ 1000000 := by decide) (hK : K ≤ 1000000000 := by decide) : ACall Try.prog 34 [.one a] (.d (.one (prow K (dg (fneg c) (n)) (fneg c)))) := by
  obtain ⟨⟨fa, ha, ea⟩, za⟩ := ha
  refine ACall.le (dl (DV.l ha) dl0) AV.le.rfl ?_
  refine acallN hTT 7 [.tmp 2] Try.func34 rfl rfl rfl rfl rfl ?_
  refine cSeq ?_
  refine cReg ?_
  refine mN hTT (.box 23 ([.row 2 n (ael K fa)])) rfl rfl rfl ?_
  refine mV hTT _ rfl ?_
  refine mNil ?_
  refine tN ?_
  refine cSeq ?_
  refine AW.wk (wkBox 1 rfl) ?_
  refine cReg ?_
  refine mV hTT (.d (.one (.row 2 n (ael K fa)))) rfl ?_
  refine mV hTT (.d (.one (.v (.int .i64 (n : Int))))) rfl ?_
  refine mV hTT _ rfl ?_
  refine mC0 (aEach (n := n) (K := K) (c := (fneg c)) (fun i hi => aPNeg1 ea hi hK) (by omega)) rfl rfl rfl ?_
  refine mV hTT _ rfl ?_
  refine mNil ?_
  refine tN ?_
  refine cRet ?_
  exact rQ rfl (AV.le.rfl)

set_option maxRecDepth 100000 in
set_option maxHeartbeats 4000000 in
theorem aPScale1 {K n k : Nat} {fa : Nat → Bool × List Nat} {c : Nat → Int} (ea : ∀ i, i < n → fzv fa i = c i) {L M : Nat} {s : Bool} {xs : List Nat} {y : Int} (hy : zv s (val xs) = y) (hk : k < n) (hM : K + L ≤ M) (hMM : M ≤ 1000000000) : ACall Try.prog 85 [.one (.v (.int .i64 (k : Int))), .one (.at 1 (fun q => (([.row 2 n (ael K fa)] : List Lf)[0 + q]?).getD (.v undef))), .one (.at 2 (fun q => (([.v (.bool s), lr L xs] : List Lf)[0 + q]?).getD (.v undef)))] (.d (.agg (zn M (fscl c y k)))) := by
  refine acallN hTT 11 [.cell 4 26] Try.func85 rfl rfl rfl rfl rfl ?_
  refine cSeq ?_
  refine cReg ?_
  refine mN hTT (.box 26 ([.v (.bool false), .v (.slice none 0 0)])) rfl rfl rfl ?_
  refine mNil ?_
  refine tN ?_
  refine cSeq ?_
  refine cDrawK hTT 6 (by kernel_rfl) (by kernel_rfl) ?_
  refine .cons (OpS.V (.d (.one (.row 2 n (ael K fa)))) rfl) ?_
  refine .cons (OpS.V _ rfl) ?_
  refine .cons (OpS.V (.d (.one (.at 2 ((ael K fa) k)))) (ixR (el := (ael K fa)) (z := (k : Int)) (n := n) rfl rfl rfl rfl rfl rfl (by omega) (by omega))) ?_
  refine .cons (OpS.V (.d (.agg ([.v (.bool ((fa k).1)), lr K ((fa k).2)]))) rfl) ?_
  refine .cons (OpS.V (.d (.agg ([.v (.bool s), lr L xs]))) rfl) ?_
  refine .cons (OpS.C0 (aMul ⟨_, _, fun _ _ _ h => h, ea k (by omega)⟩ ⟨_, _, fun _ _ _ h => h, hy⟩ (M := (K + L)) (by omega) (by omega) (by omega)) rfl rfl rfl) ?_
  refine .nil ?_
  refine mS hTT 4 (.box 26 (zn (K + L) ((c k) * y))) rfl ?_
  refine mNil ?_
  refine tN ?_
  refine cRet ?_
  exact rQ rfl (le_zn hM rfl)

set_option maxRecDepth 100000 in
set_option maxHeartbeats 4000000 in
theorem aPScale {a : Lf} {b : List Lf} {K L M n : Nat} {c : Nat → Int} {y : Int} (ha : IsP a K n c) (hb : IsZ b L y) (hM : K + L ≤ M := by decide) (hn : n ≤ 1000000 := by decide) (hMM : M ≤ 1000000000 := by decide) : ACall Try.prog 27 [.one a, .agg b] (.d (.one (prow M (dg (fscl c y) (n)) (fscl c y)))) := by
  obtain ⟨⟨fa, ha, ea⟩, za⟩ := ha
  obtain ⟨s, xs, hb, hy⟩ := hb
  refine ACall.le (dl (DV.l ha) (dl (DV.z hb) dl0)) AV.le.rfl ?_
  refine acallN hTT 9 [.tmp 4] Try.func27 rfl rfl rfl rfl rfl ?_
  refine cSeq ?_
  refine cReg ?_
  refine mN hTT (.box 23 ([.row 2 n (ael K fa)])) rfl rfl rfl ?_
  refine mN hTT (.box 26 ([.v (.bool s), lr L xs])) rfl rfl rfl ?_
  refine mV hTT _ rfl ?_
  refine mNil ?_
  refine tN ?_
  refine cSeq ?_
  refine AW.wk (wkBox 2 rfl) ?_
  refine AW.wk (wkBox 3 rfl) ?_
  refine cReg ?_
  refine mV hTT (.d (.one (.row 2 n (ael K fa)))) rfl ?_
  refine mV hTT (.d (.one (.v (.int .i64 (n : Int))))) rfl ?_
  refine mV hTT _ rfl ?_
  refine mC0 (aEach (n := n) (K := M) (c := (fscl c y)) (fun i hi => aPScale1 ea hy hi hM hMM) (by omega)) rfl rfl rfl ?_
  refine mV hTT _ rfl ?_
  refine mNil ?_
  refine tN ?_
  refine cRet ?_
  exact rQ rfl (AV.le.rfl)

set_option maxRecDepth 100000 in
set_option maxHeartbeats 4000000 in
theorem aPDer1 {K n k : Nat} {fa : Nat → Bool × List Nat} {c : Nat → Int} (ea : ∀ i, i < n → fzv fa i = c i) {M : Nat} (hk : k + 1 < n) (hn : n ≤ 1000000) (hM : K + 2 ≤ M) (hMM : M ≤ 1000000000) : ACall Try.prog 93 [.one (.v (.int .i64 (k : Int))), .one (.at 1 (fun q => (([.row 2 n (ael K fa)] : List Lf)[0 + q]?).getD (.v undef)))] (.d (.agg (zn M (fder c k)))) := by
  refine acallN hTT 13 [.cell 3 26] Try.func93 rfl rfl rfl rfl rfl ?_
  refine cSeq ?_
  refine cReg ?_
  refine mN hTT (.box 26 ([.v (.bool false), .v (.slice none 0 0)])) rfl rfl rfl ?_
  refine mNil ?_
  refine tN ?_
  refine cSeq ?_
  refine cDrawK hTT 9 (by kernel_rfl) (by kernel_rfl) ?_
  refine .cons (OpS.V (.d (.one (.row 2 n (ael K fa)))) rfl) ?_
  refine .cons (OpS.V _ rfl) ?_
  refine .cons (OpS.V (.d (.one (.v (.int .i64 ((k + 1 : Nat) : Int))))) (evi (inc64 (by omega)))) ?_
  refine .cons (OpS.V (.d (.one (.at 2 ((ael K fa) (k + 1))))) (ixR (el := (ael K fa)) (z := ((k + 1 : Nat) : Int)) (n := n) rfl rfl rfl rfl rfl rfl (by omega) (by omega))) ?_
  refine .cons (OpS.V (.d (.agg ([.v (.bool ((fa (k + 1)).1)), lr K ((fa (k + 1)).2)]))) rfl) ?_
  refine .cons (OpS.V _ rfl) ?_
  refine .cons (OpS.V (.d (.one (.v (.int .i64 ((k + 1 : Nat) : Int))))) (evi (inc64 (by omega)))) ?_
  refine .cons (OpS.C0 (aOf (n := ((k + 1 : Nat) : Int)) (by omega) (by omega)) rfl rfl rfl) ?_
  refine .cons (OpS.C0 (aMul ⟨_, _, fun _ _ _ h => h, ea (k + 1) (by omega)⟩ (isz 2 ((k + 1 : Nat) : Int)) (M := (K + 2)) (by omega) (by omega) (by decide)) rfl rfl rfl) ?_
  refine .nil ?_
  refine mS hTT 3 (.box 26 (zn (K + 2) ((c (k + 1)) * ((k + 1 : Nat) : Int)))) rfl ?_
  refine mNil ?_
  refine tN ?_
  refine cRet ?_
  exact rQ rfl (le_zn hM rfl)

set_option maxRecDepth 100000 in
set_option maxHeartbeats 4000000 in
theorem aPDer {a : Lf} {K M n : Nat} {c : Nat → Int} (ha : IsP a K n c) (hM : K + 2 ≤ M := by decide) (hn : n ≤ 1000000 := by decide) (hMM : M ≤ 1000000000 := by decide) : ACall Try.prog 38 [.one a] (.d (.one (prow M (dg (fder c) (n - 1)) (fder c)))) := by
  obtain ⟨⟨fa, ha, ea⟩, za⟩ := ha
  refine ACall.le (dl (DV.l ha) dl0) AV.le.rfl ?_
  refine acallN hTT 9 [.tmp 2] Try.func38 rfl rfl rfl rfl rfl ?_
  refine cSeq ?_
  refine cReg ?_
  refine mN hTT (.box 23 ([.row 2 n (ael K fa)])) rfl rfl rfl ?_
  refine mV hTT _ rfl ?_
  refine mNil ?_
  refine tN ?_
  refine cSeq ?_
  refine AW.wk (wkBox 1 rfl) ?_
  refine cReg ?_
  refine mV hTT (.d (.one (.row 2 n (ael K fa)))) rfl ?_
  refine mV hTT (.d (.one (.v (.int .i64 (n : Int))))) rfl ?_
  refine mV hTT (.d (.one (.v (.int .i64 ((n : Int) - 1))))) (evi (wr64 (by omega) (by omega))) ?_
  refine mV hTT (.d (.one (.v (.int .i64 ((n - 1 : Nat) : Int))))) (evi (by rw [if_pos rfl]; split <;> omega)) ?_
  refine mV hTT _ rfl ?_
  refine mC0 (aEach (n := (n - 1)) (K := M) (c := (fder c)) (fun i hi => aPDer1 ea (by omega) hn hM hMM) (by omega)) rfl rfl rfl ?_
  refine mV hTT _ rfl ?_
  refine mNil ?_
  refine tN ?_
  refine cRet ?_
  exact rQ rfl (AV.le.rfl)

set_option maxRecDepth 100000 in
set_option maxHeartbeats 4000000 in
theorem aPNorm {a : Lf} {K n : Nat} {c : Nat → Int} (ha : IsP a K n c) (hn : n ≤ 1000000 := by decide) (hK : K ≤ 1000000000 := by decide) : ACall Try.prog 36 [.one a] (.d (.one (prow K (dg c (n)) c))) := by
  obtain ⟨⟨fa, ha, ea⟩, za⟩ := ha
  refine ACall.le (dl (DV.l ha) dl0) AV.le.rfl ?_
  refine acallN hTT 24 [.tmp 2] Try.func36 rfl rfl rfl rfl rfl ?_
  refine cSeq ?_
  refine cReg ?_
  refine mV hTT _ rfl ?_
  refine mNil ?_
  refine tN ?_
  refine cSeq ?_
  refine cReg ?_
  refine mV hTT _ rfl ?_
  refine mV hTT (.d (.one (.v (.int .i64 (n : Int))))) rfl ?_
  refine mN hTT (.row 26 2 n (fun _ j => .v ((([Value.bool false, Value.slice none 0 0] : List Value)[j]?).getD undef))) (mkO (zl := (n : Int)) (zc := (n : Int)) (bts := 32) rfl rfl rfl rfl rfl (by omega) (by omega) rfl rfl rfl (by omega) (by omega) rfl) rfl rfl ?_
  refine mV hTT _ rfl ?_
  refine mNil ?_
  refine tN ?_
  refine cSeq ?_
  refine cSeq ?_
  refine cReg ?_
  refine mV hTT _ rfl ?_
  refine mV hTT (.d (.one (.v (.int .i64 (n : Int))))) rfl ?_
  refine mV hTT _ rfl ?_
  refine mNil ?_
  refine tN ?_
  refine cBlock ?_
  refine cLoop (ι := Nat) (fun (i : Nat) => ⟨24, [(9, .d (.one (.row 2 n (ael K fa)))), (10, .d (.one (.v (.int .i64 (n : Int))))), (11, .d (.one (.v (.int .i64 ((i : Nat) : Int))))), (3, .own 8)], [(8, .row 26 2 n (zel K (upd c i)))]⟩) (fun (i : Nat) => i ≤ n) (fun (i : Nat) => n - i) 0 (Nat.zero_le _) (wk (sl := [(9, .d (.one (.row 2 n (ael K fa)))), (10, .d (.one (.v (.int .i64 (n : Int))))), (11, .d (.one (.v (.int .i64 ((0 : Nat) : Int))))), (3, .own 8)]) (hp := [(8, .row 26 2 n (zel K (upd c 0)))]) rfl ⟨hs rfl, hs rfl, hs rfl, hs rfl, trivial⟩ ⟨ho' rfl (leo_zero (fun i _ => if_neg (Nat.not_lt_zero _))), trivial⟩ rfl) ?_
  rintro i hI
  have hi : i ≤ n := hI
  show AW Try.prog _ _ ⟨24, [(9, .d (.one (.row 2 n (ael K fa)))), (10, .d (.one (.v (.int .i64 (n : Int))))), (11, .d (.one (.v (.int .i64 ((i : Nat) : Int))))), (3, .own 8)], [(8, .row 26 2 n (zel K (upd c i)))]⟩
  refine cSeq ?_
  refine cReg ?_
  refine mV hTT (.d (.one (.v (.bool (decide (((i : Nat) : Int) < (n : Int))))))) rfl ?_
  refine mNil ?_
  refine tN ?_
  refine cSeq ?_
  refine cCond rfl (fun hc1 => ?_) (fun hc1 => ?_)
  · skip
    refine cSkip ?_
    refine tN ?_
    refine cSeq ?_
    refine cBlock ?_
    refine cSeq ?_
    have hin : i < n := by have h0 := of_decide_eq_true hc1; omega
    refine cReg ?_
    refine mV hTT _ rfl ?_
    refine mV hTT (.d (.one (.at 2 ((ael K fa) i)))) (ixR (el := (ael K fa)) (z := ((i : Nat) : Int)) (n := n) rfl rfl rfl rfl rfl rfl (by omega) (by omega)) ?_
    refine mV hTT (.d (.agg ([.v (.bool ((fa i).1)), lr K ((fa i).2)]))) rfl ?_
    refine mN hTT (.box 26 ([.v (.bool false), .v (.slice none 0 0)])) rfl rfl rfl ?_
    refine mV hTT _ rfl ?_
    refine mS hTT 5 (.box 26 ([.v (.bool ((fa i).1)), lr K ((fa i).2)])) rfl ?_
    refine mNil ?_
    refine tN ?_
    refine cReg ?_
    refine mV hTT _ rfl ?_
    refine mV hTT _ rfl ?_
    refine mV hTT (.d (.agg ([.v (.bool ((fa i).1)), lr K ((fa i).2)]))) rfl ?_
    refine mC0 (aNorm ⟨_, _, fun _ _ _ h => h, ea i (by omega)⟩ (by omega)) rfl rfl rfl ?_
    refine mV hTT (.eptr 8 2 i 0) (ixO (z := ((i : Nat) : Int)) (n := n) rfl rfl rfl rfl rfl rfl rfl (by omega) (by omega)) ?_
    refine mS hTT 8 (.row 26 2 n (fun p' q' => if p' = i then ((zn K (c i))[q']?).getD (.v undef) else (zel K (upd c i)) p' q')) rfl ?_
    refine mNil ?_
    refine bN ?_
    refine tN ?_
    refine cReg ?_
    refine mV hTT (.d (.one (.v (.int .i64 (IntKind.i64.wrap (((i : Nat) : Int) + 1)))))) rfl ?_
    refine mV hTT _ rfl ?_
    refine mNil ?_
    exact ⟨(i + 1), by omega, by omega, wk (sl := [(9, .d (.one (.row 2 n (ael K fa)))), (10, .d (.one (.v (.int .i64 (n : Int))))), (11, .d (.one (.v (.int .i64 (((i + 1) : Nat) : Int))))), (3, .own 8)]) (hp := [(8, .row 26 2 n (zel K (upd c (i + 1))))]) rfl ⟨hs rfl, hs rfl, hs' rfl (le_int (inc64 (by omega))), hs rfl, trivial⟩ ⟨ho' rfl (st_z (Nat.le_refl _) (Nat.le_refl _) upd_self (fun p _ hp => upd_ne hp)), trivial⟩ rfl⟩
  · skip
    refine cExit ?_
    refine tE ?_
    refine tE ?_
    refine bE ?_
    refine tN ?_
    refine cSeq ?_
    have hie : n = i := by have h0 := of_decide_eq_false hc1; omega
    subst hie
    refine AW.wk (wkRow 8 rfl) ?_
    refine cView 3 (.d (.one (.row 2 n (zel K c)))) rfl (le_one (prow_le (Nat.le_refl _) (fun i hi => if_pos hi))) ?_
    refine cReg ?_
    refine mV hTT _ rfl ?_
    refine mC0 (aPCut (K := K) (n := n) (c := c) (by omega)) rfl rfl rfl ?_
    refine mV hTT _ rfl ?_
    refine mNil ?_
    refine tN ?_
    refine cRet ?_
    exact rQ rfl (AV.le.rfl)

set_option maxRecDepth 100000 in
set_option maxHeartbeats 4000000 in
theorem aPOf {a : Lf} {n : Nat} {c : Nat → Int} (ha : IsI a n c) (hb : ∀ i, i < n → -9223372036854775808 ≤ c i ∧ c i ≤ 9223372036854775807) (hn : n ≤ 1000000 := by decide) : ACall Try.prog 28 [.one a] (.d (.one (prow 2 (dg c (n)) c))) := by
  obtain ⟨ha, za⟩ := ha
  refine ACall.le (dl (DV.l ha) dl0) AV.le.rfl ?_
  refine acallN hTT 24 [.tmp 2] Try.func28 rfl rfl rfl rfl rfl ?_
  refine cSeq ?_
  refine cReg ?_
  refine mV hTT _ rfl ?_
  refine mNil ?_
  refine tN ?_
  refine cSeq ?_
  refine cReg ?_
  refine mV hTT _ rfl ?_
  refine mV hTT (.d (.one (.v (.int .i64 (n : Int))))) rfl ?_
  refine mN hTT (.row 26 2 n (fun _ j => .v ((([Value.bool false, Value.slice none 0 0] : List Value)[j]?).getD undef))) (mkO (zl := (n : Int)) (zc := (n : Int)) (bts := 32) rfl rfl rfl rfl rfl (by omega) (by omega) rfl rfl rfl (by omega) (by omega) rfl) rfl rfl ?_
  refine mV hTT _ rfl ?_
  refine mNil ?_
  refine tN ?_
  refine cSeq ?_
  refine cSeq ?_
  refine cReg ?_
  refine mV hTT _ rfl ?_
  refine mV hTT (.d (.one (.v (.int .i64 (n : Int))))) rfl ?_
  refine mV hTT _ rfl ?_
  refine mNil ?_
  refine tN ?_
  refine cBlock ?_
  refine cLoop (ι := Nat) (fun (i : Nat) => ⟨24, [(9, .d (.one (.row 1 n (fun i _ => .v (.int .i64 (c i)))))), (10, .d (.one (.v (.int .i64 (n : Int))))), (11, .d (.one (.v (.int .i64 ((i : Nat) : Int))))), (3, .own 8)], [(8, .row 26 2 n (zel 2 (upd c i)))]⟩) (fun (i : Nat) => i ≤ n) (fun (i : Nat) => n - i) 0 (Nat.zero_le _) (wk (sl := [(9, .d (.one (.row 1 n (fun i _ => .v (.int .i64 (c i)))))), (10, .d (.one (.v (.int .i64 (n : Int))))), (11, .d (.one (.v (.int .i64 ((0 : Nat) : Int))))), (3, .own 8)]) (hp := [(8, .row 26 2 n (zel 2 (upd c 0)))]) rfl ⟨hs rfl, hs rfl, hs rfl, hs rfl, trivial⟩ ⟨ho' rfl (leo_zero (fun i _ => if_neg (Nat.not_lt_zero _))), trivial⟩ rfl) ?_
  rintro i hI
  have hi : i ≤ n := hI
  show AW Try.prog _ _ ⟨24, [(9, .d (.one (.row 1 n (fun i _ => .v (.int .i64 (c i)))))), (10, .d (.one (.v (.int .i64 (n : Int))))), (11, .d (.one (.v (.int .i64 ((i : Nat) : Int))))), (3, .own 8)], [(8, .row 26 2 n (zel 2 (upd c i)))]⟩
  refine cSeq ?_
  refine cReg ?_
  refine mV hTT (.d (.one (.v (.bool (decide (((i : Nat) : Int) < (n : Int))))))) rfl ?_
  refine mNil ?_
  refine tN ?_
  refine cSeq ?_
  refine cCond rfl (fun hc1 => ?_) (fun hc1 => ?_)
  · skip
    refine cSkip ?_
    refine tN ?_
    refine cSeq ?_
    refine cBlock ?_
    refine cSeq ?_
    have hin : i < n := by have h0 := of_decide_eq_true hc1; omega
    refine cReg ?_
    refine mV hTT _ rfl ?_
    refine mV hTT (.d (.one (.at 1 ((fun i _ => .v (.int .i64 (c i))) i)))) (ixR (el := (fun i _ => .v (.int .i64 (c i)))) (z := ((i : Nat) : Int)) (n := n) rfl rfl rfl rfl rfl rfl (by omega) (by omega)) ?_
    refine mV hTT (.d (.one (.v (.int .i64 (c i))))) rfl ?_
    refine mV hTT _ rfl ?_
    refine mV hTT _ rfl ?_
    refine mNil ?_
    refine tN ?_
    refine cReg ?_
    refine mV hTT _ rfl ?_
    refine mV hTT _ rfl ?_
    refine mV hTT _ rfl ?_
    refine mC0 (aOf (n := c i) (hb i hin).1 (hb i hin).2) rfl rfl rfl ?_
    refine mV hTT (.eptr 8 2 i 0) (ixO (z := ((i : Nat) : Int)) (n := n) rfl rfl rfl rfl rfl rfl rfl (by omega) (by omega)) ?_
    refine mS hTT 8 (.row 26 2 n (fun p' q' => if p' = i then ((zn 2 (c i))[q']?).getD (.v undef) else (zel 2 (upd c i)) p' q')) rfl ?_
    refine mNil ?_
    refine bN ?_
    refine tN ?_
    refine cReg ?_
    refine mV hTT (.d (.one (.v (.int .i64 (IntKind.i64.wrap (((i : Nat) : Int) + 1)))))) rfl ?_
    refine mV hTT _ rfl ?_
    refine mNil ?_
    exact ⟨(i + 1), by omega, by omega, wk (sl := [(9, .d (.one (.row 1 n (fun i _ => .v (.int .i64 (c i)))))), (10, .d (.one (.v (.int .i64 (n : Int))))), (11, .d (.one (.v (.int .i64 (((i + 1) : Nat) : Int))))), (3, .own 8)]) (hp := [(8, .row 26 2 n (zel 2 (upd c (i + 1))))]) rfl ⟨hs rfl, hs rfl, hs' rfl (le_int (inc64 (by omega))), hs rfl, trivial⟩ ⟨ho' rfl (st_z (Nat.le_refl _) (Nat.le_refl _) upd_self (fun p _ hp => upd_ne hp)), trivial⟩ rfl⟩
  · skip
    refine cExit ?_
    refine tE ?_
    refine tE ?_
    refine bE ?_
    refine tN ?_
    refine cSeq ?_
    have hie : n = i := by have h0 := of_decide_eq_false hc1; omega
    subst hie
    refine AW.wk (wkRow 8 rfl) ?_
    refine cView 3 (.d (.one (.row 2 n (zel 2 c)))) rfl (le_one (prow_le (Nat.le_refl _) (fun i hi => if_pos hi))) ?_
    refine cReg ?_
    refine mV hTT _ rfl ?_
    refine mC0 (aPCut (K := 2) (n := n) (c := c) (by omega)) rfl rfl rfl ?_
    refine mV hTT _ rfl ?_
    refine mNil ?_
    refine tN ?_
    refine cRet ?_
    exact rQ rfl (AV.le.rfl)

end Go.Proofs.Ytnnpjkalkfoolaa
