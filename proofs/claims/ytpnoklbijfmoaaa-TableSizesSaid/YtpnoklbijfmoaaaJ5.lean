/-
  TABLES, by the machine (3): the law TableSizes.
-/
import Derived.Test.YtpnoklbijfmoaaaJ4
set_option linter.unusedVariables false
set_option linter.unusedSimpArgs false
namespace Go.Proofs.Ytpnoklbijfmoaaa
open Go.RowKit

theorem aStillI {x y : Int} (h1 : -9223372036854775808 ≤ x) (h2 : x ≤ 9223372036854775807) (h3 : -9223372036854775808 ≤ y) (h4 : y ≤ 9223372036854775807) (hx : x ≠ 0) (hy : y ≠ 0) : ACall Try.prog 5 [.one (.v (.int .i64 x)), .one (.v (.int .i64 y))] (.d (.agg ([prow 3 1 (oc x), prow 3 1 (oc y)] ++ zn 3 1))) := by
  have h := aCStill h1 h2 h3 h4
  rwa [crv_oc hx hy] at h
set_option maxRecDepth 100000 in
set_option maxHeartbeats 4000000 in
theorem aWakes23 : ACall Try.prog 9 [] (.d (.one (.v (.bool true)))) := by
  refine acallN hTT 32 [.tmp 0] Try.func9 rfl rfl rfl rfl rfl ?_
  refine cSeq ?_
  refine cReg ?_
  refine mV hTT _ rfl ?_
  refine mNil ?_
  refine tN ?_
  refine cSeq ?_
  refine cReg ?_
  refine mCL (aTNew (n := 1) (d := 1) (by decide) (by decide) (by decide) (by decide)) [] [(23, 4)] [] [] rfl rfl ⟨⟨_, _, rfl, AV.le.rfl, rfl⟩, ⟨_, _, rfl, AV.le.rfl, rfl⟩, trivial⟩ trivial ⟨⟨rfl, rfl⟩, trivial⟩ trivial trivial trivial ?_
  rintro _ _ ⟨rfl, rfl⟩
  refine AL.wk (wk (sl := [(0, .d (.one (.v (.bool false)))), (4, .ptup 4 [.one (.v (.int .i64 0))])]) (hp := [(4, .box 45 ([.v (.int .i64 1), .v (.int .i64 1), .v (.slice none 0 0)]))]) rfl ⟨hs rfl, hs rfl, trivial⟩ ⟨ho rfl, trivial⟩ rfl) ?_
  refine mNm 4 rfl (fun pp1 => ?_)
  refine mV hTT _ rfl ?_
  refine mV hTT _ rfl ?_
  refine mV hTT _ rfl ?_
  refine mV hTT _ rfl ?_
  refine mV hTT _ rfl ?_
  refine mNil ?_
  refine tN ?_
  refine cSeq ?_
  refine cReg ?_
  refine mV hTT _ rfl ?_
  refine mV hTT (.d (.one (.v (.bool true)))) rfl ?_
  refine mV hTT _ rfl ?_
  refine mV hTT _ rfl ?_
  refine mX (.d (.one (.v (.bool true)))) (xPn true rfl (Or.inr ⟨rfl, rfl⟩) Try.underlying32 rfl rfl) ?_
  refine mV hTT _ rfl ?_
  refine mV hTT _ rfl ?_
  refine mV hTT _ rfl ?_
  refine mC0 (aStillI (x := 1) (y := 2) (by decide) (by decide) (by decide) (by decide) (by decide) (by decide)) rfl rfl rfl ?_
  refine mV hTT (.d (.agg ([.row 2 1 (zel 3 (oc 1))] ++ [.row 2 1 (zel 3 (oc 2))] ++ zn 3 1 ++ [.v (.int .i64 1)]))) rfl ?_
  refine mCL (aTPut (pp := pp1) (mp := 1) (md := 1) (K := 4) (n := 1) (m := 2) (N := 0) (p := (fun _ _ => 0)) (q := (fun _ _ => 0)) (ids := (fun _ => 0)) (x := (oc 1)) (y := (oc 2)) (D := 1) (id := 1) (isp (K := 3) (n := 1) (c := oc 1) oc_z) (isp (K := 3) (n := 1) (c := oc 2) oc_z) (isz 3 1) (by decide) (by omega) (by omega) oc_z (fun i hi => oc_z i (by omega)) (by omega) (by omega) (by decide) (by decide) (by decide) (by decide) (by omega) (fun i hi => absurd hi (Nat.not_lt_zero _)) sm_oc deg_12 (by decide)) [(0, 4)] [] [] [] rfl rfl ⟨⟨_, _, rfl, AV.le.rfl, rfl⟩, ⟨_, _, rfl, AV.le.rfl, rfl⟩, trivial⟩ ⟨⟨_, _, rfl, rfl, leo_tab0, rfl⟩, trivial⟩ trivial ⟨⟨_, 4, _, rfl, rfl, rfl⟩, trivial⟩ ⟨Or.inr ⟨_, _, rfl, by decide, fun _ _ h => by obtain ⟨rfl, rfl⟩ := h; exact ⟨_, rfl⟩⟩, trivial⟩ trivial ?_
  rintro _ _ ⟨rfl, rfl⟩
  refine AL.wk (wk (sl := [(0, .d (.one (.v (.bool false)))), (4, .ptup 4 [.one (.v (.int .i64 0))]), (3, .ptup 4 [.one (.v (.int .i64 0))]), (5, .ptr 4 0), (6, .d (.one (.v (.int .i64 0)))), (1, .ptr 4 0), (2, .d (.one (.v (.int .i64 0)))), (7, .d (.one (.v (.int .i64 0)))), (8, .d (.one (.v (.bool true)))), (9, .d (.one (.v (.bool true)))), (10, .ptr 4 0), (11, .d (.one (.v (.bool true)))), (12, .d (.one (.v (.bool true)))), (13, .d (.one (.v (.bool true)))), (14, .ptr 4 0), (15, .d (.agg ([.row 2 1 (zel 3 (oc 1))] ++ [.row 2 1 (zel 3 (oc 2))] ++ zn 3 1))), (16, .d (.agg ([.row 2 1 (zel 3 (oc 1))] ++ [.row 2 1 (zel 3 (oc 2))] ++ zn 3 1 ++ [.v (.int .i64 1)]))), (17, .d (.one (.v (.int .i64 0))))]) (hp := [(4, .is pp1 (.box 45 ([.v (.int .i64 1), .v (.int .i64 1), .row 5 (0 + 1) (pts 4 1 2 (snoc (fun _ _ => 0) 0 (ov 1 (oc 1))) (snoc (fun _ _ => 0) 0 (ov 1 (oc 2))) (snoc (fun _ => 0) 0 1))])))]) rfl ⟨hs rfl, hs rfl, hs rfl, hs rfl, hs rfl, hs rfl, hs rfl, hs rfl, hs rfl, hs rfl, hs rfl, hs rfl, hs rfl, hs rfl, hs rfl, hs rfl, hs rfl, hs rfl, trivial⟩ ⟨ho rfl, trivial⟩ rfl) ?_
  refine mV hTT (.d (.one (.v (.bool true)))) rfl ?_
  refine mV hTT _ rfl ?_
  refine mV hTT _ rfl ?_
  refine mV hTT _ rfl ?_
  refine mC0 (aStillI (x := 1) (y := 2) (by decide) (by decide) (by decide) (by decide) (by decide) (by decide)) rfl rfl rfl ?_
  refine mV hTT (.d (.agg ([.row 2 1 (zel 3 (oc 1))] ++ [.row 2 1 (zel 3 (oc 2))] ++ zn 3 1 ++ [.v (.int .i64 2)]))) rfl ?_
  refine mCL (aTPutFull (pp := pp1) (mp := 1) (md := 1) (K := 4) (n := 1) (m := 2) (N := (0 + 1)) (p := (snoc (fun _ _ => 0) 0 (ov 1 (oc 1)))) (q := (snoc (fun _ _ => 0) 0 (ov 1 (oc 2)))) (ids := (snoc (fun _ => 0) 0 1)) (x := (oc 1)) (y := (oc 2)) (D := 1) (id := 2) (isp (K := 3) (n := 1) (c := oc 1) oc_z) (isp (K := 3) (n := 1) (c := oc 2) oc_z) (isz 3 1) (by decide) (by omega) (by omega) oc_z (fun i hi => oc_z i (by omega)) (by omega) (by omega) (by decide) (by decide) (by decide) (by decide) (by omega) (fun i hi => by obtain rfl : i = 0 := (by omega); rw [snoc_at]; decide) sm_oc deg_12 (by decide)) [(0, 4)] [] [] [] rfl rfl ⟨⟨_, _, rfl, AV.le.rfl, rfl⟩, ⟨_, _, rfl, AV.le.rfl, rfl⟩, trivial⟩ ⟨⟨_, _, rfl, rfl, AO.le.rfl, rfl⟩, trivial⟩ trivial ⟨⟨_, 4, _, rfl, rfl, rfl⟩, trivial⟩ ⟨Or.inr ⟨_, _, rfl, by decide, fun _ _ h => by obtain ⟨rfl, rfl⟩ := h; exact ⟨_, rfl⟩⟩, trivial⟩ trivial ?_
  rintro _ _ ⟨rfl, rfl⟩
  refine AL.wk (wk (sl := [(0, .d (.one (.v (.bool false)))), (4, .ptup 4 [.one (.v (.int .i64 0))]), (3, .ptup 4 [.one (.v (.int .i64 0))]), (5, .ptr 4 0), (6, .d (.one (.v (.int .i64 0)))), (1, .ptr 4 0), (2, .d (.one (.v (.int .i64 0)))), (7, .d (.one (.v (.int .i64 0)))), (8, .d (.one (.v (.bool true)))), (9, .d (.one (.v (.bool true)))), (10, .ptr 4 0), (11, .d (.one (.v (.bool true)))), (12, .d (.one (.v (.bool true)))), (13, .d (.one (.v (.bool true)))), (14, .ptr 4 0), (15, .d (.agg ([.row 2 1 (zel 3 (oc 1))] ++ [.row 2 1 (zel 3 (oc 2))] ++ zn 3 1))), (16, .d (.agg ([.row 2 1 (zel 3 (oc 1))] ++ [.row 2 1 (zel 3 (oc 2))] ++ zn 3 1 ++ [.v (.int .i64 1)]))), (17, .d (.one (.v (.int .i64 0)))), (18, .d (.one (.v (.bool true)))), (19, .d (.one (.v (.bool true)))), (20, .d (.one (.v (.bool true)))), (21, .ptr 4 0), (22, .d (.agg ([.row 2 1 (zel 3 (oc 1))] ++ [.row 2 1 (zel 3 (oc 2))] ++ zn 3 1))), (23, .d (.agg ([.row 2 1 (zel 3 (oc 1))] ++ [.row 2 1 (zel 3 (oc 2))] ++ zn 3 1 ++ [.v (.int .i64 2)]))), (24, .d (.one (.v (.int .i64 9))))]) (hp := [(4, .is pp1 (.box 45 ([.v (.int .i64 1), .v (.int .i64 1), .row 5 (0 + 1) (pts 4 1 2 (snoc (fun _ _ => 0) 0 (ov 1 (oc 1))) (snoc (fun _ _ => 0) 0 (ov 1 (oc 2))) (snoc (fun _ => 0) 0 1))])))]) rfl ⟨hs rfl, hs rfl, hs rfl, hs rfl, hs rfl, hs rfl, hs rfl, hs rfl, hs rfl, hs rfl, hs rfl, hs rfl, hs rfl, hs rfl, hs rfl, hs rfl, hs rfl, hs rfl, hs rfl, hs rfl, hs rfl, hs rfl, hs rfl, hs rfl, hs rfl, trivial⟩ ⟨ho rfl, trivial⟩ rfl) ?_
  refine mV hTT (.d (.one (.v (.bool true)))) rfl ?_
  refine mV hTT _ rfl ?_
  refine mV hTT _ rfl ?_
  refine mV hTT _ rfl ?_
  refine mCL (aTLen (pp := pp1) (mp := 1) (md := 1) (K := 4) (n := 1) (m := 2) (N := (0 + 1)) (p := (snoc (fun _ _ => 0) 0 (ov 1 (oc 1)))) (q := (snoc (fun _ _ => 0) 0 (ov 1 (oc 2)))) (ids := (snoc (fun _ => 0) 0 1))) [(0, 4)] [] [] [] rfl rfl ⟨⟨_, _, rfl, AV.le.rfl, rfl⟩, trivial⟩ ⟨⟨_, _, rfl, rfl, AO.le.rfl, rfl⟩, trivial⟩ trivial ⟨⟨_, 4, _, rfl, rfl, rfl⟩, trivial⟩ ⟨Or.inr ⟨_, _, rfl, by decide, fun _ _ h => by obtain ⟨rfl, rfl⟩ := h; exact ⟨_, rfl⟩⟩, trivial⟩ trivial ?_
  rintro _ _ ⟨rfl, rfl⟩
  refine AL.wk (wk (sl := [(0, .d (.one (.v (.bool false)))), (4, .ptup 4 [.one (.v (.int .i64 0))]), (3, .ptup 4 [.one (.v (.int .i64 0))]), (5, .ptr 4 0), (6, .d (.one (.v (.int .i64 0)))), (1, .ptr 4 0), (2, .d (.one (.v (.int .i64 0)))), (7, .d (.one (.v (.int .i64 0)))), (8, .d (.one (.v (.bool true)))), (9, .d (.one (.v (.bool true)))), (10, .ptr 4 0), (11, .d (.one (.v (.bool true)))), (12, .d (.one (.v (.bool true)))), (13, .d (.one (.v (.bool true)))), (14, .ptr 4 0), (15, .d (.agg ([.row 2 1 (zel 3 (oc 1))] ++ [.row 2 1 (zel 3 (oc 2))] ++ zn 3 1))), (16, .d (.agg ([.row 2 1 (zel 3 (oc 1))] ++ [.row 2 1 (zel 3 (oc 2))] ++ zn 3 1 ++ [.v (.int .i64 1)]))), (17, .d (.one (.v (.int .i64 0)))), (18, .d (.one (.v (.bool true)))), (19, .d (.one (.v (.bool true)))), (20, .d (.one (.v (.bool true)))), (21, .ptr 4 0), (22, .d (.agg ([.row 2 1 (zel 3 (oc 1))] ++ [.row 2 1 (zel 3 (oc 2))] ++ zn 3 1))), (23, .d (.agg ([.row 2 1 (zel 3 (oc 1))] ++ [.row 2 1 (zel 3 (oc 2))] ++ zn 3 1 ++ [.v (.int .i64 2)]))), (24, .d (.one (.v (.int .i64 9)))), (25, .d (.one (.v (.bool true)))), (26, .d (.one (.v (.bool true)))), (27, .d (.one (.v (.bool true)))), (28, .ptr 4 0), (29, .d (.one (.v (.int .i64 (((0 + 1) : Nat) : Int)))))]) (hp := [(4, .is pp1 (.box 45 ([.v (.int .i64 1), .v (.int .i64 1), .row 5 (0 + 1) (pts 4 1 2 (snoc (fun _ _ => 0) 0 (ov 1 (oc 1))) (snoc (fun _ _ => 0) 0 (ov 1 (oc 2))) (snoc (fun _ => 0) 0 1))])))]) rfl ⟨hs rfl, hs rfl, hs rfl, hs rfl, hs rfl, hs rfl, hs rfl, hs rfl, hs rfl, hs rfl, hs rfl, hs rfl, hs rfl, hs rfl, hs rfl, hs rfl, hs rfl, hs rfl, hs rfl, hs rfl, hs rfl, hs rfl, hs rfl, hs rfl, hs rfl, hs rfl, hs rfl, hs rfl, hs rfl, hs rfl, trivial⟩ ⟨ho rfl, trivial⟩ rfl) ?_
  refine mV hTT (.d (.one (.v (.bool true)))) (evb rfl) ?_
  refine mV hTT _ rfl ?_
  refine mV hTT _ rfl ?_
  refine mNil ?_
  refine tN ?_
  refine cRet ?_
  exact rQ rfl (AV.le.rfl)

theorem ls_c4 {a b a' b' : Lf} {d : List Lf} (ha : ∀ B w v, LfR B w a v → LfR B w a' v) (hb : ∀ B w v, LfR B w b v → LfR B w b' v) : ∀ B w cs, LsR B w ([a] ++ [b] ++ d) cs → LsR B w ([a'] ++ [b'] ++ d) cs
  | B, w, c1 :: c2 :: cs, ⟨h1, h2, h3⟩ => ⟨ha _ _ _ h1, hb _ _ _ h2, h3⟩
theorem leo_c4 {t : TypeId} {a b a' b' : Lf} {d : List Lf} (ha : ∀ B w v, LfR B w a v → LfR B w a' v) (hb : ∀ B w v, LfR B w b v → LfR B w b' v) : AO.le (.box t ([a] ++ [b] ++ d)) (.box t ([a'] ++ [b'] ++ d)) := leo_box (ls_c4 ha hb)
set_option maxRecDepth 100000 in
set_option maxHeartbeats 4000000 in
theorem aTableSizes {n : Int} {x y : Bool} (h1 : -9223372036854775808 ≤ n) (h2 : n ≤ 9223372036854775807) : ACall Try.prog 3 [.one (.v (.int .i64 n)), .one (.v (.bool x)), .one (.v (.bool y))] (.d (.one (.v (.bool true)))) := by
  obtain ⟨k, hk, hk2, hk5⟩ : ∃ k : Nat, n % (4 : Int) + 3 = ((k + 1 : Nat) : Int) ∧ 2 ≤ k ∧ k ≤ 5 := ⟨(n % 4).toNat + 2, by omega, by omega, by omega⟩
  refine acallN hTT 84 [.tmp 6] Try.func3 rfl rfl rfl rfl rfl ?_
  refine cSeq ?_
  refine cReg ?_
  refine mV hTT _ rfl ?_
  refine mNil ?_
  refine tN ?_
  refine cSeq ?_
  refine cReg ?_
  refine mV hTT _ rfl ?_
  refine mC0 (aWithin (v := n) (n := 4) (by decide) (by decide) h1 h2) rfl rfl rfl ?_
  refine mV hTT (.d (.one (.v (.int .i64 ((k + 1 : Nat) : Int))))) (evi ((wr64 (by omega) (by omega)).trans hk)) ?_
  refine mV hTT _ rfl ?_
  refine mNil ?_
  refine tN ?_
  refine cSeq ?_
  refine cReg ?_
  refine mV hTT _ rfl ?_
  refine mN hTT (.row 24 1 (k + 1) (fun _ j => .v ((([Value.int .u32 0] : List Value)[j]?).getD undef))) (mkO (zl := ((k + 1 : Nat) : Int)) (zc := ((k + 1 : Nat) : Int)) (bts := 4) rfl rfl rfl rfl rfl (by omega) (by omega) rfl rfl rfl (by omega) (by omega) rfl) rfl rfl ?_
  refine mV hTT _ rfl ?_
  refine mNil ?_
  refine tN ?_
  refine cSeq ?_
  refine cReg ?_
  refine mV hTT _ rfl ?_
  refine mV hTT _ rfl ?_
  refine mV hTT (.d (.one (.v (.int .i64 ((k : Nat) : Int))))) (evi ((wr64 (by omega) (by omega)).trans (by omega))) ?_
  refine mV hTT (.eptr 18 1 k 0) (ixO (z := ((k : Nat) : Int)) (n := (k + 1)) rfl rfl rfl rfl rfl rfl rfl (by omega) (by omega)) ?_
  refine mS hTT 18 (.row 24 1 (k + 1) (fun p' q' => if p' = k then (([.v (.int .u32 1)])[q']?).getD (.v undef) else (fun _ j => .v ((([Value.int .u32 0] : List Value)[j]?).getD undef)) p' q')) rfl ?_
  refine mNil ?_
  refine tN ?_
  refine cSeq ?_
  refine AW.wk (wkRow 18 rfl) ?_
  refine cView 7 (.d (.one (lr 6 (tw k)))) rfl (le_tw hk5 (fun i hi => by by_cases e : i = k <;> simp [e])) ?_
  refine cReg ?_
  refine mC0 (aStillI (x := 1) (y := 1) (by decide) (by decide) (by decide) (by decide) (by decide) (by decide)) rfl rfl rfl ?_
  refine mN hTT (.box 30 ([.v (.slice none 0 0), .v (.slice none 0 0), .v (.bool false), .v (.slice none 0 0)])) rfl rfl rfl ?_
  refine mS hTT 8 (.box 30 ([.row 2 1 (zel 3 (oc 1))] ++ [.row 2 1 (zel 3 (oc 1))] ++ zn 3 1)) rfl ?_
  refine mNil ?_
  refine tN ?_
  refine cSeq ?_
  refine cSeq ?_
  cases x
  · skip
    cases y
    · skip
      refine cReg ?_
      refine mV hTT _ rfl ?_
      refine mNil ?_
      refine tN ?_
      refine cF rfl ?_
      refine cSkip ?_
      refine tN ?_
      refine cSeq ?_
      refine cSeq ?_
      refine cReg ?_
      refine mV hTT _ rfl ?_
      refine mNil ?_
      refine tN ?_
      refine cF rfl ?_
      refine cSkip ?_
      refine tN ?_
      refine cSeq ?_
      refine AW.wk (wk (sl := [(0, .d (.one (.v (.int .i64 ((k + 1 : Nat) : Int))))), (1, .d (.one (.v (.bool false)))), (2, .d (.one (.v (.bool false)))), (6, .d (.one (.v (.bool false)))), (14, .d (.one (.v (.int .i64 n)))), (15, .d (.one (.v (.int .i64 (n % (4 : Int)))))), (16, .d (.one (.v (.int .i64 ((k + 1 : Nat) : Int))))), (17, .d (.one (.v (.int .i64 ((k + 1 : Nat) : Int))))), (18, .d (.one (.row 1 (k + 1) (fun p' q' => if p' = k then (([.v (.int .u32 1)])[q']?).getD (.v undef) else (fun _ j => .v ((([Value.int .u32 0] : List Value)[j]?).getD undef)) p' q')))), (7, .d (.one (lr 6 (tw k)))), (19, .d (.one (.row 1 (k + 1) (fun p' q' => if p' = k then (([.v (.int .u32 1)])[q']?).getD (.v undef) else (fun _ j => .v ((([Value.int .u32 0] : List Value)[j]?).getD undef)) p' q')))), (20, .d (.one (.v (.int .i64 ((k + 1 : Nat) : Int))))), (21, .d (.one (.v (.int .i64 ((k : Nat) : Int))))), (22, .dead), (23, .d (.agg ([.row 2 1 (zel 3 (oc 1))] ++ [.row 2 1 (zel 3 (oc 1))] ++ zn 3 1))), (8, .ptr 8 0), (24, .d (.one (.v (.bool false)))), (29, .d (.one (.v (.bool false))))]) (hp := [(8, .box 30 ([.row 2 1 (ael 6 (fX false k))] ++ [.row 2 1 (ael 6 (fY false k))] ++ zn 3 1))]) rfl ⟨hs rfl, hs rfl, hs rfl, hs rfl, hs rfl, hs rfl, hs rfl, hs rfl, hs rfl, hs rfl, hs rfl, hs rfl, hs rfl, hs rfl, hs rfl, hs rfl, hs rfl, hs rfl, trivial⟩ ⟨ho' rfl (leo_c4 (t := 30) (le_x0 (k := k)) (le_y0 (k := k))), trivial⟩ rfl) ?_
      refine AW.wk (wk (sl := [(0, .d (.one (.v (.int .i64 ((k + 1 : Nat) : Int))))), (1, .d (.one (.v (.bool false)))), (2, .d (.one (.v (.bool false)))), (6, .d (.one (.v (.bool false)))), (7, .d (.one (lr 6 (tw k)))), (8, .ptr 8 0)]) (hp := [(8, .box 30 ([.row 2 1 (ael 6 (fX false k))] ++ [.row 2 1 (ael 6 (fY false k))] ++ zn 3 1))]) rfl ⟨hs rfl, hs rfl, hs rfl, hs rfl, hs rfl, hs rfl, trivial⟩ ⟨ho rfl, trivial⟩ rfl) ?_
      refine cReg ?_
      refine mCL (aTNew (n := 3) (d := 1) (by decide) (by decide) (by decide) (by decide)) [] [(23, 37)] [] [] rfl rfl ⟨⟨_, _, rfl, AV.le.rfl, rfl⟩, ⟨_, _, rfl, AV.le.rfl, rfl⟩, trivial⟩ trivial ⟨⟨rfl, rfl⟩, trivial⟩ trivial trivial trivial ?_
      rintro _ _ ⟨rfl, rfl⟩
      refine AL.wk (wk (sl := [(0, .d (.one (.v (.int .i64 ((k + 1 : Nat) : Int))))), (1, .d (.one (.v (.bool false)))), (2, .d (.one (.v (.bool false)))), (6, .d (.one (.v (.bool false)))), (7, .d (.one (lr 6 (tw k)))), (8, .ptr 8 0), (37, .ptup 37 [.one (.v (.int .i64 0))])]) (hp := [(8, .box 30 ([.row 2 1 (ael 6 (fX false k))] ++ [.row 2 1 (ael 6 (fY false k))] ++ zn 3 1)), (37, .box 45 ([.v (.int .i64 3), .v (.int .i64 1), .v (.slice none 0 0)]))]) rfl ⟨hs rfl, hs rfl, hs rfl, hs rfl, hs rfl, hs rfl, hs rfl, trivial⟩ ⟨ho rfl, ho rfl, trivial⟩ rfl) ?_
      refine mNm 37 rfl (fun pp1 => ?_)
      refine mV hTT _ rfl ?_
      refine mV hTT _ rfl ?_
      refine mV hTT _ rfl ?_
      refine mV hTT _ rfl ?_
      refine mV hTT _ rfl ?_
      refine mNil ?_
      refine tN ?_
      refine cSeq ?_
      refine cSeq ?_
      refine cReg ?_
      refine mV hTT _ rfl ?_
      refine mV hTT (.d (.one (.v (.bool false)))) rfl ?_
      refine mV hTT _ rfl ?_
      refine mV hTT _ rfl ?_
      refine mX (.d (.one (.v (.bool false)))) (xPn false rfl (Or.inl ⟨rfl, rfl⟩) Try.underlying32 rfl rfl) ?_
      refine mV hTT _ rfl ?_
      refine mNil ?_
      refine tN ?_
      refine cF rfl ?_
      refine cSkip ?_
      refine tN ?_
      refine cSeq ?_
      refine cReg ?_
      refine mV hTT _ rfl ?_
      refine mNil ?_
      refine tN ?_
      refine cSeq ?_
      refine cSeq ?_
      refine AW.wk (wk (sl := [(0, .d (.one (.v (.int .i64 ((k + 1 : Nat) : Int))))), (1, .d (.one (.v (.bool false)))), (2, .d (.one (.v (.bool false)))), (6, .d (.one (.v (.bool false)))), (7, .d (.one (lr 6 (tw k)))), (8, .ptr 8 0), (9, .ptr 37 0), (11, .d (.one (.v (.int .i64 0))))]) (hp := [(8, .box 30 ([.row 2 1 (ael 6 (fX false k))] ++ [.row 2 1 (ael 6 (fY false k))] ++ zn 3 1)), (37, .is pp1 (.box 45 ([.v (.int .i64 3), .v (.int .i64 1), .v (.slice none 0 0)])))]) rfl ⟨hs rfl, hs rfl, hs rfl, hs rfl, hs rfl, hs rfl, hs rfl, hs rfl, trivial⟩ ⟨ho rfl, ho rfl, trivial⟩ rfl) ?_
      by_cases hk4 : 4 ≤ k
      · skip
        have hsm : smC 1 2 (ov 1 (cx false k)) (ov 1 (cy false k)) := (sm_cut false false k).2 (fun h => by rcases h.2 with h0 | h0 <;> cases h0)
        refine cReg ?_
        refine mV hTT _ rfl ?_
        refine mV hTT (.d (.one (.v (.bool true)))) (evb (decide_eq_true (by omega))) ?_
        refine mV hTT _ rfl ?_
        refine mV hTT _ rfl ?_
        refine mV hTT _ rfl ?_
        refine mV hTT _ rfl ?_
        refine mV hTT _ rfl ?_
        refine mV hTT _ rfl ?_
        refine mNil ?_
        refine tN ?_
        refine cF rfl ?_
        refine cSkip ?_
        refine tN ?_
        refine cSeq ?_
        refine cSeq ?_
        refine AW.wk (wk (sl := [(6, .d (.one (.v (.bool false)))), (7, .d (.one (lr 6 (tw k)))), (8, .ptr 8 0), (9, .ptr 37 0), (11, .d (.one (.v (.int .i64 0))))]) (hp := [(8, .box 30 ([.row 2 1 (ael 6 (fX false k))] ++ [.row 2 1 (ael 6 (fY false k))] ++ zn 3 1)), (37, .is pp1 (.box 45 ([.v (.int .i64 3), .v (.int .i64 1), .v (.slice none 0 0)])))]) rfl ⟨hs rfl, hs rfl, hs rfl, hs rfl, hs rfl, trivial⟩ ⟨ho rfl, ho rfl, trivial⟩ rfl) ?_
        refine cReg ?_
        refine mV hTT _ rfl ?_
        refine mV hTT (.d (.agg ([.row 2 1 (ael 6 (fX false k))] ++ [.row 2 1 (ael 6 (fY false k))] ++ zn 3 1))) rfl ?_
        refine mV hTT (.d (.agg ([.row 2 1 (ael 6 (fX false k))] ++ [.row 2 1 (ael 6 (fY false k))] ++ zn 3 1 ++ [.v (.int .i64 1)]))) rfl ?_
        refine mCL (aTPut (pp := pp1) (mp := 3) (md := 1) (K := 7) (n := 1) (m := 2) (N := 0) (p := (fun _ _ => 0)) (q := (fun _ _ => 0)) (ids := (fun _ => 0)) (x := (cx false k)) (y := (cy false k)) (D := 1) (id := 1) (isA (n := 1) (K := 6) (f := fX false k)) (isA (n := 1) (K := 6) (f := fY false k)) (IsZ.mono (L := 6) (isz 3 1) (by decide)) (by decide) (by omega) (by omega) cx_z cy_z (by omega) (by omega) (by decide) (by decide) (by decide) (by decide) (by omega) (fun i hi => absurd hi (Nat.not_lt_zero _)) hsm deg_12 (by decide)) [(0, 37)] [] [] [] rfl rfl ⟨⟨_, _, rfl, AV.le.rfl, rfl⟩, ⟨_, _, rfl, AV.le.rfl, rfl⟩, trivial⟩ ⟨⟨_, _, rfl, rfl, leo_tab0, rfl⟩, trivial⟩ trivial ⟨⟨_, 9, _, rfl, rfl, rfl⟩, trivial⟩ ⟨Or.inr ⟨_, _, rfl, by decide, fun _ _ h => by obtain ⟨rfl, rfl⟩ := h; exact ⟨_, rfl⟩⟩, trivial⟩ trivial ?_
        rintro _ _ ⟨rfl, rfl⟩
        refine AL.wk (wk (sl := [(6, .d (.one (.v (.bool false)))), (7, .d (.one (lr 6 (tw k)))), (8, .ptr 8 0), (9, .ptr 37 0), (11, .d (.one (.v (.int .i64 0)))), (54, .ptr 37 0), (55, .d (.agg ([.row 2 1 (ael 6 (fX false k))] ++ [.row 2 1 (ael 6 (fY false k))] ++ zn 3 1))), (56, .d (.agg ([.row 2 1 (ael 6 (fX false k))] ++ [.row 2 1 (ael 6 (fY false k))] ++ zn 3 1 ++ [.v (.int .i64 1)]))), (57, .d (.one (.v (.int .i64 0))))]) (hp := [(8, .box 30 ([.row 2 1 (ael 6 (fX false k))] ++ [.row 2 1 (ael 6 (fY false k))] ++ zn 3 1)), (37, .is pp1 (.box 45 ([.v (.int .i64 3), .v (.int .i64 1), .row 5 (0 + 1) (pts 7 1 2 (snoc (fun _ _ => 0) 0 (ov 1 (cx false k))) (snoc (fun _ _ => 0) 0 (ov 1 (cy false k))) (snoc (fun _ => 0) 0 1))])))]) rfl ⟨hs rfl, hs rfl, hs rfl, hs rfl, hs rfl, hs rfl, hs rfl, hs rfl, hs rfl, trivial⟩ ⟨ho rfl, ho rfl, trivial⟩ rfl) ?_
        refine mV hTT _ rfl ?_
        refine mV hTT (.d (.one (.v (.bool false)))) rfl ?_
        refine mNil ?_
        refine tN ?_
        refine cF rfl ?_
        refine cSkip ?_
        refine tN ?_
        refine cSeq ?_
        refine AW.wk (wk (sl := [(6, .d (.one (.v (.bool false)))), (7, .d (.one (lr 6 (tw k)))), (8, .ptr 8 0), (9, .ptr 37 0), (11, .d (.one (.v (.int .i64 0))))]) (hp := [(8, .box 30 ([.row 2 1 (ael 6 (fX false k))] ++ [.row 2 1 (ael 6 (fY false k))] ++ zn 3 1)), (37, .is pp1 (.box 45 ([.v (.int .i64 3), .v (.int .i64 1), .row 5 (0 + 1) (pts 7 1 2 (snoc (fun _ _ => 0) 0 (ov 1 (cx false k))) (snoc (fun _ _ => 0) 0 (ov 1 (cy false k))) (snoc (fun _ => 0) 0 1))])))]) rfl ⟨hs rfl, hs rfl, hs rfl, hs rfl, hs rfl, trivial⟩ ⟨ho rfl, ho rfl, trivial⟩ rfl) ?_
        refine cReg ?_
        refine mV hTT _ rfl ?_
        refine mV hTT (.d (.agg ([.v (.bool false), lr 6 (tw k)]))) rfl ?_
        refine mN hTT (.box 28 ([.v (.bool false), .v (.slice none 0 0)])) rfl rfl rfl ?_
        refine mS hTT 12 (.box 28 ([.v (.bool false), lr 6 (tw k)])) rfl ?_
        refine mNil ?_
        refine tN ?_
        refine cSeq ?_
        refine cReg ?_
        refine mV hTT (.d (.agg ([.v (.bool false), lr 6 (tw k)]))) rfl ?_
        refine mB hTT (.d (.one (.row 2 1 (fun i' j' => (([.v (.bool false), lr 6 (tw k)])[i' * 2 + j']?).getD (.v undef))))) rfl ?_
        refine mV hTT (.d (.agg ([.v (.bool false), lr 6 (tw k)]))) rfl ?_
        refine mB hTT (.d (.one (.row 2 1 (fun i' j' => (([.v (.bool false), lr 6 (tw k)])[i' * 2 + j']?).getD (.v undef))))) rfl ?_
        refine mV hTT (.d (.agg ([.v (.bool false), lr 6 (tw k)]))) rfl ?_
        refine mV hTT (.d (.agg ([.row 2 1 (fun i' j' => (([.v (.bool false), lr 6 (tw k)])[i' * 2 + j']?).getD (.v undef)), .row 2 1 (fun i' j' => (([.v (.bool false), lr 6 (tw k)])[i' * 2 + j']?).getD (.v undef)), .v (.bool false), lr 6 (tw k)]))) rfl ?_
        refine mN hTT (.box 30 ([.v (.slice none 0 0), .v (.slice none 0 0), .v (.bool false), .v (.slice none 0 0)])) rfl rfl rfl ?_
        refine mS hTT 13 (.box 30 ([.row 2 1 (fun i' j' => (([.v (.bool false), lr 6 (tw k)])[i' * 2 + j']?).getD (.v undef)), .row 2 1 (fun i' j' => (([.v (.bool false), lr 6 (tw k)])[i' * 2 + j']?).getD (.v undef)), .v (.bool false), lr 6 (tw k)])) rfl ?_
        refine mNil ?_
        refine tN ?_
        refine cSeq ?_
        refine AW.wk (wk (sl := [(6, .d (.one (.v (.bool false)))), (8, .ptr 8 0), (9, .ptr 37 0), (11, .d (.one (.v (.int .i64 0)))), (13, .ptr 13 0)]) (hp := [(8, .box 30 ([.row 2 1 (ael 6 (fX false k))] ++ [.row 2 1 (ael 6 (fY false k))] ++ zn 3 1)), (37, .is pp1 (.box 45 ([.v (.int .i64 3), .v (.int .i64 1), .row 5 (0 + 1) (pts 7 1 2 (snoc (fun _ _ => 0) 0 (ov 1 (cx false k))) (snoc (fun _ _ => 0) 0 (ov 1 (cy false k))) (snoc (fun _ => 0) 0 1))]))), (13, .box 30 ([.row 2 1 (fun i' j' => (([.v (.bool false), lr 6 (tw k)])[i' * 2 + j']?).getD (.v undef)), .row 2 1 (fun i' j' => (([.v (.bool false), lr 6 (tw k)])[i' * 2 + j']?).getD (.v undef)), .v (.bool false), lr 6 (tw k)]))]) rfl ⟨hs rfl, hs rfl, hs rfl, hs rfl, hs rfl, trivial⟩ ⟨ho rfl, ho rfl, ho rfl, trivial⟩ rfl) ?_
        refine cReg ?_
        refine mV hTT _ rfl ?_
        refine mV hTT (.d (.agg ([.row 2 1 (fun i' j' => (([.v (.bool false), lr 6 (tw k)])[i' * 2 + j']?).getD (.v undef)), .row 2 1 (fun i' j' => (([.v (.bool false), lr 6 (tw k)])[i' * 2 + j']?).getD (.v undef)), .v (.bool false), lr 6 (tw k)]))) rfl ?_
        refine mV hTT (.d (.agg ([.row 2 1 (fun i' j' => (([.v (.bool false), lr 6 (tw k)])[i' * 2 + j']?).getD (.v undef)), .row 2 1 (fun i' j' => (([.v (.bool false), lr 6 (tw k)])[i' * 2 + j']?).getD (.v undef)), .v (.bool false), lr 6 (tw k), .v (.int .i64 2)]))) rfl ?_
        refine mCL (aTPut (pp := pp1) (mp := 3) (md := 1) (K := 7) (n := 1) (m := 2) (N := (0 + 1)) (p := (snoc (fun _ _ => 0) 0 (ov 1 (cx false k)))) (q := (snoc (fun _ _ => 0) 0 (ov 1 (cy false k)))) (ids := (snoc (fun _ => 0) 0 1)) (x := (cfz 1 (fW k))) (y := (cfz 1 (fW k))) (D := ((B32 ^ k : Nat) : Int)) (id := 2) isW isW isZW (W_ne k) (by omega) (by omega) cfz_z (fun i hi => cfz_z i (by omega)) (by omega) (by omega) (by decide) (by decide) (by decide) (by decide) (by omega) (fun i hi => by obtain rfl : i = 0 := (by omega); rw [snoc_at]; decide) (sm_W k) deg_12 (by decide)) [(0, 37)] [] [] [] rfl rfl ⟨⟨_, _, rfl, AV.le.rfl, rfl⟩, ⟨_, _, rfl, AV.le.rfl, rfl⟩, trivial⟩ ⟨⟨_, _, rfl, rfl, AO.le.rfl, rfl⟩, trivial⟩ trivial ⟨⟨_, 9, _, rfl, rfl, rfl⟩, trivial⟩ ⟨Or.inr ⟨_, _, rfl, by decide, fun _ _ h => by obtain ⟨rfl, rfl⟩ := h; exact ⟨_, rfl⟩⟩, trivial⟩ trivial ?_
        rintro _ _ ⟨rfl, rfl⟩
        refine AL.wk (wk (sl := [(6, .d (.one (.v (.bool false)))), (8, .ptr 8 0), (9, .ptr 37 0), (11, .d (.one (.v (.int .i64 0)))), (13, .ptr 13 0), (68, .ptr 37 0), (69, .d (.agg ([.row 2 1 (fun i' j' => (([.v (.bool false), lr 6 (tw k)])[i' * 2 + j']?).getD (.v undef)), .row 2 1 (fun i' j' => (([.v (.bool false), lr 6 (tw k)])[i' * 2 + j']?).getD (.v undef)), .v (.bool false), lr 6 (tw k)]))), (70, .d (.agg ([.row 2 1 (fun i' j' => (([.v (.bool false), lr 6 (tw k)])[i' * 2 + j']?).getD (.v undef)), .row 2 1 (fun i' j' => (([.v (.bool false), lr 6 (tw k)])[i' * 2 + j']?).getD (.v undef)), .v (.bool false), lr 6 (tw k), .v (.int .i64 2)]))), (71, .d (.one (.v (.int .i64 0))))]) (hp := [(8, .box 30 ([.row 2 1 (ael 6 (fX false k))] ++ [.row 2 1 (ael 6 (fY false k))] ++ zn 3 1)), (37, .is pp1 (.box 45 ([.v (.int .i64 3), .v (.int .i64 1), .row 5 ((0 + 1) + 1) (pts 7 1 2 (snoc (snoc (fun _ _ => 0) 0 (ov 1 (cx false k))) (0 + 1) (ov ((B32 ^ k : Nat) : Int) (cfz 1 (fW k)))) (snoc (snoc (fun _ _ => 0) 0 (ov 1 (cy false k))) (0 + 1) (ov ((B32 ^ k : Nat) : Int) (cfz 1 (fW k)))) (snoc (snoc (fun _ => 0) 0 1) (0 + 1) 2))]))), (13, .box 30 ([.row 2 1 (fun i' j' => (([.v (.bool false), lr 6 (tw k)])[i' * 2 + j']?).getD (.v undef)), .row 2 1 (fun i' j' => (([.v (.bool false), lr 6 (tw k)])[i' * 2 + j']?).getD (.v undef)), .v (.bool false), lr 6 (tw k)]))]) rfl ⟨hs rfl, hs rfl, hs rfl, hs rfl, hs rfl, hs rfl, hs rfl, hs rfl, hs rfl, trivial⟩ ⟨ho rfl, ho rfl, ho rfl, trivial⟩ rfl) ?_
        refine mV hTT (.d (.one (.v (.bool true)))) rfl ?_
        refine mV hTT _ rfl ?_
        refine mV hTT _ rfl ?_
        refine mV hTT (.d (.agg ([.row 2 1 (ael 6 (fX false k))] ++ [.row 2 1 (ael 6 (fY false k))] ++ zn 3 1))) rfl ?_
        refine mV hTT (.d (.agg ([.row 2 1 (ael 6 (fX false k))] ++ [.row 2 1 (ael 6 (fY false k))] ++ zn 3 1 ++ [.v (.int .i64 2)]))) rfl ?_
        refine mCL (aTTurn (pp := pp1) (mp := 3) (md := 1) (K := 7) (n := 1) (m := 2) (N := ((0 + 1) + 1)) (p := (snoc (snoc (fun _ _ => 0) 0 (ov 1 (cx false k))) (0 + 1) (ov ((B32 ^ k : Nat) : Int) (cfz 1 (fW k))))) (q := (snoc (snoc (fun _ _ => 0) 0 (ov 1 (cy false k))) (0 + 1) (ov ((B32 ^ k : Nat) : Int) (cfz 1 (fW k))))) (ids := (snoc (snoc (fun _ => 0) 0 1) (0 + 1) 2)) (x := (cx false k)) (y := (cy false k)) (D := 1) (id := 2) (isA (n := 1) (K := 6) (f := fX false k)) (isA (n := 1) (K := 6) (f := fY false k)) (IsZ.mono (L := 6) (isz 3 1) (by decide)) (by decide) (by omega) (by omega) cx_z cy_z (by omega) (by omega) (by decide) (by decide) (by decide) (by decide) (by omega) (k := (0 + 1)) (by decide) (fun i hi => by obtain rfl : i = 0 := (by omega); rw [snoc_ne (by omega), snoc_at]; decide) snoc_at hsm deg_12) [(0, 37)] [] [] [] rfl rfl ⟨⟨_, _, rfl, AV.le.rfl, rfl⟩, ⟨_, _, rfl, AV.le.rfl, rfl⟩, trivial⟩ ⟨⟨_, _, rfl, rfl, AO.le.rfl, rfl⟩, trivial⟩ trivial ⟨⟨_, 9, _, rfl, rfl, rfl⟩, trivial⟩ ⟨Or.inr ⟨_, _, rfl, by decide, fun _ _ h => by obtain ⟨rfl, cc, rfl⟩ := h; exact ⟨_, rfl⟩⟩, trivial⟩ trivial ?_
        rintro _ _ ⟨rfl, cc, rfl⟩
        refine AL.wk (wk (sl := [(6, .d (.one (.v (.bool false)))), (8, .ptr 8 0), (9, .ptr 37 0), (11, .d (.one (.v (.int .i64 0)))), (13, .ptr 13 0), (68, .ptr 37 0), (69, .d (.agg ([.row 2 1 (fun i' j' => (([.v (.bool false), lr 6 (tw k)])[i' * 2 + j']?).getD (.v undef)), .row 2 1 (fun i' j' => (([.v (.bool false), lr 6 (tw k)])[i' * 2 + j']?).getD (.v undef)), .v (.bool false), lr 6 (tw k)]))), (70, .d (.agg ([.row 2 1 (fun i' j' => (([.v (.bool false), lr 6 (tw k)])[i' * 2 + j']?).getD (.v undef)), .row 2 1 (fun i' j' => (([.v (.bool false), lr 6 (tw k)])[i' * 2 + j']?).getD (.v undef)), .v (.bool false), lr 6 (tw k), .v (.int .i64 2)]))), (71, .d (.one (.v (.int .i64 0)))), (72, .d (.one (.v (.bool true)))), (73, .d (.one (.v (.bool true)))), (74, .ptr 37 0), (75, .d (.agg ([.row 2 1 (ael 6 (fX false k))] ++ [.row 2 1 (ael 6 (fY false k))] ++ zn 3 1))), (76, .d (.agg ([.row 2 1 (ael 6 (fX false k))] ++ [.row 2 1 (ael 6 (fY false k))] ++ zn 3 1 ++ [.v (.int .i64 2)]))), (77, .d (.one (.v (.int .i64 0))))]) (hp := [(8, .box 30 ([.row 2 1 (ael 6 (fX false k))] ++ [.row 2 1 (ael 6 (fY false k))] ++ zn 3 1)), (37, .is pp1 (.box 45 ([.v (.int .i64 3), .v (.int .i64 1), cc]))), (13, .box 30 ([.row 2 1 (fun i' j' => (([.v (.bool false), lr 6 (tw k)])[i' * 2 + j']?).getD (.v undef)), .row 2 1 (fun i' j' => (([.v (.bool false), lr 6 (tw k)])[i' * 2 + j']?).getD (.v undef)), .v (.bool false), lr 6 (tw k)]))]) rfl ⟨hs rfl, hs rfl, hs rfl, hs rfl, hs rfl, hs rfl, hs rfl, hs rfl, hs rfl, hs rfl, hs rfl, hs rfl, hs rfl, hs rfl, hs rfl, trivial⟩ ⟨ho rfl, ho rfl, ho rfl, trivial⟩ rfl) ?_
        refine mV hTT _ rfl ?_
        refine mV hTT (.d (.one (.v (.bool true)))) rfl ?_
        refine mV hTT _ rfl ?_
        refine mV hTT _ rfl ?_
        refine mC0 (aWakes23) rfl rfl rfl ?_
        refine mV hTT _ rfl ?_
        refine mV hTT _ rfl ?_
        refine mNil ?_
        refine tN ?_
        refine cRet ?_
        exact rQ rfl (AV.le.rfl)
      · skip
        have hsm : smC 1 2 (ov 1 (cx false k)) (ov 1 (cy false k)) := (sm_cut false false k).2 (fun h => hk4 h.1)
        refine cReg ?_
        refine mV hTT _ rfl ?_
        refine mV hTT (.d (.one (.v (.bool false)))) (evb (decide_eq_false (by omega))) ?_
        refine mV hTT _ rfl ?_
        refine mGt rfl rfl ?_
        refine mGt rfl rfl ?_
        refine mU rfl rfl ?_
        refine mGt rfl rfl ?_
        refine mV hTT _ rfl ?_
        refine mNil ?_
        refine tN ?_
        refine cF rfl ?_
        refine cSkip ?_
        refine tN ?_
        refine cSeq ?_
        refine cSeq ?_
        refine AW.wk (wk (sl := [(6, .d (.one (.v (.bool false)))), (7, .d (.one (lr 6 (tw k)))), (8, .ptr 8 0), (9, .ptr 37 0), (11, .d (.one (.v (.int .i64 0))))]) (hp := [(8, .box 30 ([.row 2 1 (ael 6 (fX false k))] ++ [.row 2 1 (ael 6 (fY false k))] ++ zn 3 1)), (37, .is pp1 (.box 45 ([.v (.int .i64 3), .v (.int .i64 1), .v (.slice none 0 0)])))]) rfl ⟨hs rfl, hs rfl, hs rfl, hs rfl, hs rfl, trivial⟩ ⟨ho rfl, ho rfl, trivial⟩ rfl) ?_
        refine cReg ?_
        refine mV hTT _ rfl ?_
        refine mV hTT (.d (.agg ([.row 2 1 (ael 6 (fX false k))] ++ [.row 2 1 (ael 6 (fY false k))] ++ zn 3 1))) rfl ?_
        refine mV hTT (.d (.agg ([.row 2 1 (ael 6 (fX false k))] ++ [.row 2 1 (ael 6 (fY false k))] ++ zn 3 1 ++ [.v (.int .i64 1)]))) rfl ?_
        refine mCL (aTPut (pp := pp1) (mp := 3) (md := 1) (K := 7) (n := 1) (m := 2) (N := 0) (p := (fun _ _ => 0)) (q := (fun _ _ => 0)) (ids := (fun _ => 0)) (x := (cx false k)) (y := (cy false k)) (D := 1) (id := 1) (isA (n := 1) (K := 6) (f := fX false k)) (isA (n := 1) (K := 6) (f := fY false k)) (IsZ.mono (L := 6) (isz 3 1) (by decide)) (by decide) (by omega) (by omega) cx_z cy_z (by omega) (by omega) (by decide) (by decide) (by decide) (by decide) (by omega) (fun i hi => absurd hi (Nat.not_lt_zero _)) hsm deg_12 (by decide)) [(0, 37)] [] [] [] rfl rfl ⟨⟨_, _, rfl, AV.le.rfl, rfl⟩, ⟨_, _, rfl, AV.le.rfl, rfl⟩, trivial⟩ ⟨⟨_, _, rfl, rfl, leo_tab0, rfl⟩, trivial⟩ trivial ⟨⟨_, 9, _, rfl, rfl, rfl⟩, trivial⟩ ⟨Or.inr ⟨_, _, rfl, by decide, fun _ _ h => by obtain ⟨rfl, rfl⟩ := h; exact ⟨_, rfl⟩⟩, trivial⟩ trivial ?_
        rintro _ _ ⟨rfl, rfl⟩
        refine AL.wk (wk (sl := [(6, .d (.one (.v (.bool false)))), (7, .d (.one (lr 6 (tw k)))), (8, .ptr 8 0), (9, .ptr 37 0), (11, .d (.one (.v (.int .i64 0)))), (54, .ptr 37 0), (55, .d (.agg ([.row 2 1 (ael 6 (fX false k))] ++ [.row 2 1 (ael 6 (fY false k))] ++ zn 3 1))), (56, .d (.agg ([.row 2 1 (ael 6 (fX false k))] ++ [.row 2 1 (ael 6 (fY false k))] ++ zn 3 1 ++ [.v (.int .i64 1)]))), (57, .d (.one (.v (.int .i64 0))))]) (hp := [(8, .box 30 ([.row 2 1 (ael 6 (fX false k))] ++ [.row 2 1 (ael 6 (fY false k))] ++ zn 3 1)), (37, .is pp1 (.box 45 ([.v (.int .i64 3), .v (.int .i64 1), .row 5 (0 + 1) (pts 7 1 2 (snoc (fun _ _ => 0) 0 (ov 1 (cx false k))) (snoc (fun _ _ => 0) 0 (ov 1 (cy false k))) (snoc (fun _ => 0) 0 1))])))]) rfl ⟨hs rfl, hs rfl, hs rfl, hs rfl, hs rfl, hs rfl, hs rfl, hs rfl, hs rfl, trivial⟩ ⟨ho rfl, ho rfl, trivial⟩ rfl) ?_
        refine mV hTT _ rfl ?_
        refine mV hTT (.d (.one (.v (.bool false)))) rfl ?_
        refine mNil ?_
        refine tN ?_
        refine cF rfl ?_
        refine cSkip ?_
        refine tN ?_
        refine cSeq ?_
        refine AW.wk (wk (sl := [(6, .d (.one (.v (.bool false)))), (7, .d (.one (lr 6 (tw k)))), (8, .ptr 8 0), (9, .ptr 37 0), (11, .d (.one (.v (.int .i64 0))))]) (hp := [(8, .box 30 ([.row 2 1 (ael 6 (fX false k))] ++ [.row 2 1 (ael 6 (fY false k))] ++ zn 3 1)), (37, .is pp1 (.box 45 ([.v (.int .i64 3), .v (.int .i64 1), .row 5 (0 + 1) (pts 7 1 2 (snoc (fun _ _ => 0) 0 (ov 1 (cx false k))) (snoc (fun _ _ => 0) 0 (ov 1 (cy false k))) (snoc (fun _ => 0) 0 1))])))]) rfl ⟨hs rfl, hs rfl, hs rfl, hs rfl, hs rfl, trivial⟩ ⟨ho rfl, ho rfl, trivial⟩ rfl) ?_
        refine cReg ?_
        refine mV hTT _ rfl ?_
        refine mV hTT (.d (.agg ([.v (.bool false), lr 6 (tw k)]))) rfl ?_
        refine mN hTT (.box 28 ([.v (.bool false), .v (.slice none 0 0)])) rfl rfl rfl ?_
        refine mS hTT 12 (.box 28 ([.v (.bool false), lr 6 (tw k)])) rfl ?_
        refine mNil ?_
        refine tN ?_
        refine cSeq ?_
        refine cReg ?_
        refine mV hTT (.d (.agg ([.v (.bool false), lr 6 (tw k)]))) rfl ?_
        refine mB hTT (.d (.one (.row 2 1 (fun i' j' => (([.v (.bool false), lr 6 (tw k)])[i' * 2 + j']?).getD (.v undef))))) rfl ?_
        refine mV hTT (.d (.agg ([.v (.bool false), lr 6 (tw k)]))) rfl ?_
        refine mB hTT (.d (.one (.row 2 1 (fun i' j' => (([.v (.bool false), lr 6 (tw k)])[i' * 2 + j']?).getD (.v undef))))) rfl ?_
        refine mV hTT (.d (.agg ([.v (.bool false), lr 6 (tw k)]))) rfl ?_
        refine mV hTT (.d (.agg ([.row 2 1 (fun i' j' => (([.v (.bool false), lr 6 (tw k)])[i' * 2 + j']?).getD (.v undef)), .row 2 1 (fun i' j' => (([.v (.bool false), lr 6 (tw k)])[i' * 2 + j']?).getD (.v undef)), .v (.bool false), lr 6 (tw k)]))) rfl ?_
        refine mN hTT (.box 30 ([.v (.slice none 0 0), .v (.slice none 0 0), .v (.bool false), .v (.slice none 0 0)])) rfl rfl rfl ?_
        refine mS hTT 13 (.box 30 ([.row 2 1 (fun i' j' => (([.v (.bool false), lr 6 (tw k)])[i' * 2 + j']?).getD (.v undef)), .row 2 1 (fun i' j' => (([.v (.bool false), lr 6 (tw k)])[i' * 2 + j']?).getD (.v undef)), .v (.bool false), lr 6 (tw k)])) rfl ?_
        refine mNil ?_
        refine tN ?_
        refine cSeq ?_
        refine AW.wk (wk (sl := [(6, .d (.one (.v (.bool false)))), (8, .ptr 8 0), (9, .ptr 37 0), (11, .d (.one (.v (.int .i64 0)))), (13, .ptr 13 0)]) (hp := [(8, .box 30 ([.row 2 1 (ael 6 (fX false k))] ++ [.row 2 1 (ael 6 (fY false k))] ++ zn 3 1)), (37, .is pp1 (.box 45 ([.v (.int .i64 3), .v (.int .i64 1), .row 5 (0 + 1) (pts 7 1 2 (snoc (fun _ _ => 0) 0 (ov 1 (cx false k))) (snoc (fun _ _ => 0) 0 (ov 1 (cy false k))) (snoc (fun _ => 0) 0 1))]))), (13, .box 30 ([.row 2 1 (fun i' j' => (([.v (.bool false), lr 6 (tw k)])[i' * 2 + j']?).getD (.v undef)), .row 2 1 (fun i' j' => (([.v (.bool false), lr 6 (tw k)])[i' * 2 + j']?).getD (.v undef)), .v (.bool false), lr 6 (tw k)]))]) rfl ⟨hs rfl, hs rfl, hs rfl, hs rfl, hs rfl, trivial⟩ ⟨ho rfl, ho rfl, ho rfl, trivial⟩ rfl) ?_
        refine cReg ?_
        refine mV hTT _ rfl ?_
        refine mV hTT (.d (.agg ([.row 2 1 (fun i' j' => (([.v (.bool false), lr 6 (tw k)])[i' * 2 + j']?).getD (.v undef)), .row 2 1 (fun i' j' => (([.v (.bool false), lr 6 (tw k)])[i' * 2 + j']?).getD (.v undef)), .v (.bool false), lr 6 (tw k)]))) rfl ?_
        refine mV hTT (.d (.agg ([.row 2 1 (fun i' j' => (([.v (.bool false), lr 6 (tw k)])[i' * 2 + j']?).getD (.v undef)), .row 2 1 (fun i' j' => (([.v (.bool false), lr 6 (tw k)])[i' * 2 + j']?).getD (.v undef)), .v (.bool false), lr 6 (tw k), .v (.int .i64 2)]))) rfl ?_
        refine mCL (aTPut (pp := pp1) (mp := 3) (md := 1) (K := 7) (n := 1) (m := 2) (N := (0 + 1)) (p := (snoc (fun _ _ => 0) 0 (ov 1 (cx false k)))) (q := (snoc (fun _ _ => 0) 0 (ov 1 (cy false k)))) (ids := (snoc (fun _ => 0) 0 1)) (x := (cfz 1 (fW k))) (y := (cfz 1 (fW k))) (D := ((B32 ^ k : Nat) : Int)) (id := 2) isW isW isZW (W_ne k) (by omega) (by omega) cfz_z (fun i hi => cfz_z i (by omega)) (by omega) (by omega) (by decide) (by decide) (by decide) (by decide) (by omega) (fun i hi => by obtain rfl : i = 0 := (by omega); rw [snoc_at]; decide) (sm_W k) deg_12 (by decide)) [(0, 37)] [] [] [] rfl rfl ⟨⟨_, _, rfl, AV.le.rfl, rfl⟩, ⟨_, _, rfl, AV.le.rfl, rfl⟩, trivial⟩ ⟨⟨_, _, rfl, rfl, AO.le.rfl, rfl⟩, trivial⟩ trivial ⟨⟨_, 9, _, rfl, rfl, rfl⟩, trivial⟩ ⟨Or.inr ⟨_, _, rfl, by decide, fun _ _ h => by obtain ⟨rfl, rfl⟩ := h; exact ⟨_, rfl⟩⟩, trivial⟩ trivial ?_
        rintro _ _ ⟨rfl, rfl⟩
        refine AL.wk (wk (sl := [(6, .d (.one (.v (.bool false)))), (8, .ptr 8 0), (9, .ptr 37 0), (11, .d (.one (.v (.int .i64 0)))), (13, .ptr 13 0), (68, .ptr 37 0), (69, .d (.agg ([.row 2 1 (fun i' j' => (([.v (.bool false), lr 6 (tw k)])[i' * 2 + j']?).getD (.v undef)), .row 2 1 (fun i' j' => (([.v (.bool false), lr 6 (tw k)])[i' * 2 + j']?).getD (.v undef)), .v (.bool false), lr 6 (tw k)]))), (70, .d (.agg ([.row 2 1 (fun i' j' => (([.v (.bool false), lr 6 (tw k)])[i' * 2 + j']?).getD (.v undef)), .row 2 1 (fun i' j' => (([.v (.bool false), lr 6 (tw k)])[i' * 2 + j']?).getD (.v undef)), .v (.bool false), lr 6 (tw k), .v (.int .i64 2)]))), (71, .d (.one (.v (.int .i64 0))))]) (hp := [(8, .box 30 ([.row 2 1 (ael 6 (fX false k))] ++ [.row 2 1 (ael 6 (fY false k))] ++ zn 3 1)), (37, .is pp1 (.box 45 ([.v (.int .i64 3), .v (.int .i64 1), .row 5 ((0 + 1) + 1) (pts 7 1 2 (snoc (snoc (fun _ _ => 0) 0 (ov 1 (cx false k))) (0 + 1) (ov ((B32 ^ k : Nat) : Int) (cfz 1 (fW k)))) (snoc (snoc (fun _ _ => 0) 0 (ov 1 (cy false k))) (0 + 1) (ov ((B32 ^ k : Nat) : Int) (cfz 1 (fW k)))) (snoc (snoc (fun _ => 0) 0 1) (0 + 1) 2))]))), (13, .box 30 ([.row 2 1 (fun i' j' => (([.v (.bool false), lr 6 (tw k)])[i' * 2 + j']?).getD (.v undef)), .row 2 1 (fun i' j' => (([.v (.bool false), lr 6 (tw k)])[i' * 2 + j']?).getD (.v undef)), .v (.bool false), lr 6 (tw k)]))]) rfl ⟨hs rfl, hs rfl, hs rfl, hs rfl, hs rfl, hs rfl, hs rfl, hs rfl, hs rfl, trivial⟩ ⟨ho rfl, ho rfl, ho rfl, trivial⟩ rfl) ?_
        refine mV hTT (.d (.one (.v (.bool true)))) rfl ?_
        refine mV hTT _ rfl ?_
        refine mV hTT _ rfl ?_
        refine mV hTT (.d (.agg ([.row 2 1 (ael 6 (fX false k))] ++ [.row 2 1 (ael 6 (fY false k))] ++ zn 3 1))) rfl ?_
        refine mV hTT (.d (.agg ([.row 2 1 (ael 6 (fX false k))] ++ [.row 2 1 (ael 6 (fY false k))] ++ zn 3 1 ++ [.v (.int .i64 2)]))) rfl ?_
        refine mCL (aTTurn (pp := pp1) (mp := 3) (md := 1) (K := 7) (n := 1) (m := 2) (N := ((0 + 1) + 1)) (p := (snoc (snoc (fun _ _ => 0) 0 (ov 1 (cx false k))) (0 + 1) (ov ((B32 ^ k : Nat) : Int) (cfz 1 (fW k))))) (q := (snoc (snoc (fun _ _ => 0) 0 (ov 1 (cy false k))) (0 + 1) (ov ((B32 ^ k : Nat) : Int) (cfz 1 (fW k))))) (ids := (snoc (snoc (fun _ => 0) 0 1) (0 + 1) 2)) (x := (cx false k)) (y := (cy false k)) (D := 1) (id := 2) (isA (n := 1) (K := 6) (f := fX false k)) (isA (n := 1) (K := 6) (f := fY false k)) (IsZ.mono (L := 6) (isz 3 1) (by decide)) (by decide) (by omega) (by omega) cx_z cy_z (by omega) (by omega) (by decide) (by decide) (by decide) (by decide) (by omega) (k := (0 + 1)) (by decide) (fun i hi => by obtain rfl : i = 0 := (by omega); rw [snoc_ne (by omega), snoc_at]; decide) snoc_at hsm deg_12) [(0, 37)] [] [] [] rfl rfl ⟨⟨_, _, rfl, AV.le.rfl, rfl⟩, ⟨_, _, rfl, AV.le.rfl, rfl⟩, trivial⟩ ⟨⟨_, _, rfl, rfl, AO.le.rfl, rfl⟩, trivial⟩ trivial ⟨⟨_, 9, _, rfl, rfl, rfl⟩, trivial⟩ ⟨Or.inr ⟨_, _, rfl, by decide, fun _ _ h => by obtain ⟨rfl, cc, rfl⟩ := h; exact ⟨_, rfl⟩⟩, trivial⟩ trivial ?_
        rintro _ _ ⟨rfl, cc, rfl⟩
        refine AL.wk (wk (sl := [(6, .d (.one (.v (.bool false)))), (8, .ptr 8 0), (9, .ptr 37 0), (11, .d (.one (.v (.int .i64 0)))), (13, .ptr 13 0), (68, .ptr 37 0), (69, .d (.agg ([.row 2 1 (fun i' j' => (([.v (.bool false), lr 6 (tw k)])[i' * 2 + j']?).getD (.v undef)), .row 2 1 (fun i' j' => (([.v (.bool false), lr 6 (tw k)])[i' * 2 + j']?).getD (.v undef)), .v (.bool false), lr 6 (tw k)]))), (70, .d (.agg ([.row 2 1 (fun i' j' => (([.v (.bool false), lr 6 (tw k)])[i' * 2 + j']?).getD (.v undef)), .row 2 1 (fun i' j' => (([.v (.bool false), lr 6 (tw k)])[i' * 2 + j']?).getD (.v undef)), .v (.bool false), lr 6 (tw k), .v (.int .i64 2)]))), (71, .d (.one (.v (.int .i64 0)))), (72, .d (.one (.v (.bool true)))), (73, .d (.one (.v (.bool true)))), (74, .ptr 37 0), (75, .d (.agg ([.row 2 1 (ael 6 (fX false k))] ++ [.row 2 1 (ael 6 (fY false k))] ++ zn 3 1))), (76, .d (.agg ([.row 2 1 (ael 6 (fX false k))] ++ [.row 2 1 (ael 6 (fY false k))] ++ zn 3 1 ++ [.v (.int .i64 2)]))), (77, .d (.one (.v (.int .i64 0))))]) (hp := [(8, .box 30 ([.row 2 1 (ael 6 (fX false k))] ++ [.row 2 1 (ael 6 (fY false k))] ++ zn 3 1)), (37, .is pp1 (.box 45 ([.v (.int .i64 3), .v (.int .i64 1), cc]))), (13, .box 30 ([.row 2 1 (fun i' j' => (([.v (.bool false), lr 6 (tw k)])[i' * 2 + j']?).getD (.v undef)), .row 2 1 (fun i' j' => (([.v (.bool false), lr 6 (tw k)])[i' * 2 + j']?).getD (.v undef)), .v (.bool false), lr 6 (tw k)]))]) rfl ⟨hs rfl, hs rfl, hs rfl, hs rfl, hs rfl, hs rfl, hs rfl, hs rfl, hs rfl, hs rfl, hs rfl, hs rfl, hs rfl, hs rfl, hs rfl, trivial⟩ ⟨ho rfl, ho rfl, ho rfl, trivial⟩ rfl) ?_
        refine mV hTT _ rfl ?_
        refine mV hTT (.d (.one (.v (.bool true)))) rfl ?_
        refine mV hTT _ rfl ?_
        refine mV hTT _ rfl ?_
        refine mC0 (aWakes23) rfl rfl rfl ?_
        refine mV hTT _ rfl ?_
        refine mV hTT _ rfl ?_
        refine mNil ?_
        refine tN ?_
        refine cRet ?_
        exact rQ rfl (AV.le.rfl)
    · skip
      refine cReg ?_
      refine mV hTT _ rfl ?_
      refine mNil ?_
      refine tN ?_
      refine cF rfl ?_
      refine cSkip ?_
      refine tN ?_
      refine cSeq ?_
      refine cSeq ?_
      refine cReg ?_
      refine mV hTT _ rfl ?_
      refine mNil ?_
      refine tN ?_
      refine cT rfl ?_
      refine cReg ?_
      refine mB hTT (.d (.one (.row 1 1 (fun i' j' => (([.v (.int .u32 5)])[i' * 1 + j']?).getD (.v undef))))) rfl ?_
      refine mView 30 (.d (.one (lr 6 ([5])))) rfl (le_five) ?_
      refine mV hTT (.d (.agg ([.v (.bool false), lr 6 ([5])]))) rfl ?_
      refine mV hTT _ rfl ?_
      refine mV hTT (.d (.agg ([.v (.bool true), lr 6 (tw k)]))) rfl ?_
      refine mB hTT (.d (.one (.row 2 2 (fun i' j' => (([.v (.bool false), lr 6 ([5]), .v (.bool true), lr 6 (tw k)])[i' * 2 + j']?).getD (.v undef))))) rfl ?_
      refine mV hTT (.ptr 8 1) rfl ?_
      refine mS hTT 8 (.box 30 ([.row 2 1 (zel 3 (oc 1))] ++ [.row 2 2 (fun i' j' => (([.v (.bool false), lr 6 ([5]), .v (.bool true), lr 6 (tw k)])[i' * 2 + j']?).getD (.v undef))] ++ zn 3 1)) rfl ?_
      refine mNil ?_
      refine tN ?_
      refine cSeq ?_
      refine AW.wk (wk (sl := [(0, .d (.one (.v (.int .i64 ((k + 1 : Nat) : Int))))), (1, .d (.one (.v (.bool false)))), (2, .d (.one (.v (.bool true)))), (6, .d (.one (.v (.bool false)))), (14, .d (.one (.v (.int .i64 n)))), (15, .d (.one (.v (.int .i64 (n % (4 : Int)))))), (16, .d (.one (.v (.int .i64 ((k + 1 : Nat) : Int))))), (17, .d (.one (.v (.int .i64 ((k + 1 : Nat) : Int))))), (18, .d (.one (.row 1 (k + 1) (fun p' q' => if p' = k then (([.v (.int .u32 1)])[q']?).getD (.v undef) else (fun _ j => .v ((([Value.int .u32 0] : List Value)[j]?).getD undef)) p' q')))), (7, .d (.one (lr 6 (tw k)))), (19, .d (.one (.row 1 (k + 1) (fun p' q' => if p' = k then (([.v (.int .u32 1)])[q']?).getD (.v undef) else (fun _ j => .v ((([Value.int .u32 0] : List Value)[j]?).getD undef)) p' q')))), (20, .d (.one (.v (.int .i64 ((k + 1 : Nat) : Int))))), (21, .d (.one (.v (.int .i64 ((k : Nat) : Int))))), (22, .dead), (23, .d (.agg ([.row 2 1 (zel 3 (oc 1))] ++ [.row 2 1 (zel 3 (oc 1))] ++ zn 3 1))), (8, .ptr 8 0), (24, .d (.one (.v (.bool false)))), (29, .d (.one (.v (.bool true)))), (30, .d (.one (lr 6 ([5])))), (31, .d (.agg ([.v (.bool false), lr 6 ([5])]))), (32, .d (.one (lr 6 (tw k)))), (33, .d (.agg ([.v (.bool true), lr 6 (tw k)]))), (34, .d (.one (.row 2 2 (fun i' j' => (([.v (.bool false), lr 6 ([5]), .v (.bool true), lr 6 (tw k)])[i' * 2 + j']?).getD (.v undef))))), (35, .ptr 8 1)]) (hp := [(8, .box 30 ([.row 2 1 (ael 6 (fX false k))] ++ [.row 2 2 (ael 6 (fY true k))] ++ zn 3 1))]) rfl ⟨hs rfl, hs rfl, hs rfl, hs rfl, hs rfl, hs rfl, hs rfl, hs rfl, hs rfl, hs rfl, hs rfl, hs rfl, hs rfl, hs rfl, hs rfl, hs rfl, hs rfl, hs rfl, hs rfl, hs rfl, hs rfl, hs rfl, hs rfl, hs rfl, trivial⟩ ⟨ho' rfl (leo_c4 (t := 30) (le_x0 (k := k)) (le_y1 (k := k))), trivial⟩ rfl) ?_
      refine AW.wk (wk (sl := [(0, .d (.one (.v (.int .i64 ((k + 1 : Nat) : Int))))), (1, .d (.one (.v (.bool false)))), (2, .d (.one (.v (.bool true)))), (6, .d (.one (.v (.bool false)))), (7, .d (.one (lr 6 (tw k)))), (8, .ptr 8 0)]) (hp := [(8, .box 30 ([.row 2 1 (ael 6 (fX false k))] ++ [.row 2 2 (ael 6 (fY true k))] ++ zn 3 1))]) rfl ⟨hs rfl, hs rfl, hs rfl, hs rfl, hs rfl, hs rfl, trivial⟩ ⟨ho rfl, trivial⟩ rfl) ?_
      refine cReg ?_
      refine mCL (aTNew (n := 3) (d := 1) (by decide) (by decide) (by decide) (by decide)) [] [(23, 37)] [] [] rfl rfl ⟨⟨_, _, rfl, AV.le.rfl, rfl⟩, ⟨_, _, rfl, AV.le.rfl, rfl⟩, trivial⟩ trivial ⟨⟨rfl, rfl⟩, trivial⟩ trivial trivial trivial ?_
      rintro _ _ ⟨rfl, rfl⟩
      refine AL.wk (wk (sl := [(0, .d (.one (.v (.int .i64 ((k + 1 : Nat) : Int))))), (1, .d (.one (.v (.bool false)))), (2, .d (.one (.v (.bool true)))), (6, .d (.one (.v (.bool false)))), (7, .d (.one (lr 6 (tw k)))), (8, .ptr 8 0), (37, .ptup 37 [.one (.v (.int .i64 0))])]) (hp := [(8, .box 30 ([.row 2 1 (ael 6 (fX false k))] ++ [.row 2 2 (ael 6 (fY true k))] ++ zn 3 1)), (37, .box 45 ([.v (.int .i64 3), .v (.int .i64 1), .v (.slice none 0 0)]))]) rfl ⟨hs rfl, hs rfl, hs rfl, hs rfl, hs rfl, hs rfl, hs rfl, trivial⟩ ⟨ho rfl, ho rfl, trivial⟩ rfl) ?_
      refine mNm 37 rfl (fun pp2 => ?_)
      refine mV hTT _ rfl ?_
      refine mV hTT _ rfl ?_
      refine mV hTT _ rfl ?_
      refine mV hTT _ rfl ?_
      refine mV hTT _ rfl ?_
      refine mNil ?_
      refine tN ?_
      refine cSeq ?_
      refine cSeq ?_
      refine cReg ?_
      refine mV hTT _ rfl ?_
      refine mV hTT (.d (.one (.v (.bool false)))) rfl ?_
      refine mV hTT _ rfl ?_
      refine mV hTT _ rfl ?_
      refine mX (.d (.one (.v (.bool false)))) (xPn false rfl (Or.inl ⟨rfl, rfl⟩) Try.underlying32 rfl rfl) ?_
      refine mV hTT _ rfl ?_
      refine mNil ?_
      refine tN ?_
      refine cF rfl ?_
      refine cSkip ?_
      refine tN ?_
      refine cSeq ?_
      refine cReg ?_
      refine mV hTT _ rfl ?_
      refine mNil ?_
      refine tN ?_
      refine cSeq ?_
      refine cSeq ?_
      refine AW.wk (wk (sl := [(0, .d (.one (.v (.int .i64 ((k + 1 : Nat) : Int))))), (1, .d (.one (.v (.bool false)))), (2, .d (.one (.v (.bool true)))), (6, .d (.one (.v (.bool false)))), (7, .d (.one (lr 6 (tw k)))), (8, .ptr 8 0), (9, .ptr 37 0), (11, .d (.one (.v (.int .i64 0))))]) (hp := [(8, .box 30 ([.row 2 1 (ael 6 (fX false k))] ++ [.row 2 2 (ael 6 (fY true k))] ++ zn 3 1)), (37, .is pp2 (.box 45 ([.v (.int .i64 3), .v (.int .i64 1), .v (.slice none 0 0)])))]) rfl ⟨hs rfl, hs rfl, hs rfl, hs rfl, hs rfl, hs rfl, hs rfl, hs rfl, trivial⟩ ⟨ho rfl, ho rfl, trivial⟩ rfl) ?_
      by_cases hk4 : 4 ≤ k
      · skip
        have hsm : ¬ smC 1 2 (ov 1 (cx false k)) (ov 1 (cy true k)) := fun h => (sm_cut false true k).1 h ⟨hk4, Or.inr rfl⟩
        refine cReg ?_
        refine mV hTT _ rfl ?_
        refine mV hTT (.d (.one (.v (.bool true)))) (evb (decide_eq_true (by omega))) ?_
        refine mV hTT _ rfl ?_
        refine mV hTT _ rfl ?_
        refine mV hTT _ rfl ?_
        refine mV hTT _ rfl ?_
        refine mV hTT _ rfl ?_
        refine mV hTT _ rfl ?_
        refine mNil ?_
        refine tN ?_
        refine cT rfl ?_
        refine cReg ?_
        refine mV hTT _ rfl ?_
        refine mNil ?_
        refine tN ?_
        refine cSeq ?_
        refine cSeq ?_
        refine AW.wk (wk (sl := [(6, .d (.one (.v (.bool false)))), (7, .d (.one (lr 6 (tw k)))), (8, .ptr 8 0), (9, .ptr 37 0), (11, .d (.one (.v (.int .i64 1))))]) (hp := [(8, .box 30 ([.row 2 1 (ael 6 (fX false k))] ++ [.row 2 2 (ael 6 (fY true k))] ++ zn 3 1)), (37, .is pp2 (.box 45 ([.v (.int .i64 3), .v (.int .i64 1), .v (.slice none 0 0)])))]) rfl ⟨hs rfl, hs rfl, hs rfl, hs rfl, hs rfl, trivial⟩ ⟨ho rfl, ho rfl, trivial⟩ rfl) ?_
        refine cReg ?_
        refine mV hTT _ rfl ?_
        refine mV hTT (.d (.agg ([.row 2 1 (ael 6 (fX false k))] ++ [.row 2 2 (ael 6 (fY true k))] ++ zn 3 1))) rfl ?_
        refine mV hTT (.d (.agg ([.row 2 1 (ael 6 (fX false k))] ++ [.row 2 2 (ael 6 (fY true k))] ++ zn 3 1 ++ [.v (.int .i64 1)]))) rfl ?_
        refine mCL (aTPutArg (pp := pp2) (mp := 3) (md := 1) (K := 7) (n := 1) (m := 2) (N := 0) (p := (fun _ _ => 0)) (q := (fun _ _ => 0)) (ids := (fun _ => 0)) (x := (cx false k)) (y := (cy true k)) (D := 1) (id := 1) (isA (n := 1) (K := 6) (f := fX false k)) (isA (n := 2) (K := 6) (f := fY true k)) (IsZ.mono (L := 6) (isz 3 1) (by decide)) (by decide) (by omega) (by omega) cx_z cy_z (by omega) (by omega) (by decide) (by decide) (by decide) (by decide) (by omega) (fun i hi => absurd hi (Nat.not_lt_zero _)) hsm ) [(0, 37)] [] [] [] rfl rfl ⟨⟨_, _, rfl, AV.le.rfl, rfl⟩, ⟨_, _, rfl, AV.le.rfl, rfl⟩, trivial⟩ ⟨⟨_, _, rfl, rfl, leo_tab0, rfl⟩, trivial⟩ trivial ⟨⟨_, 9, _, rfl, rfl, rfl⟩, trivial⟩ ⟨Or.inr ⟨_, _, rfl, by decide, fun _ _ h => by obtain ⟨rfl, rfl⟩ := h; exact ⟨_, rfl⟩⟩, trivial⟩ trivial ?_
        rintro _ _ ⟨rfl, rfl⟩
        refine AL.wk (wk (sl := [(6, .d (.one (.v (.bool false)))), (7, .d (.one (lr 6 (tw k)))), (8, .ptr 8 0), (9, .ptr 37 0), (11, .d (.one (.v (.int .i64 1)))), (54, .ptr 37 0), (55, .d (.agg ([.row 2 1 (ael 6 (fX false k))] ++ [.row 2 2 (ael 6 (fY true k))] ++ zn 3 1))), (56, .d (.agg ([.row 2 1 (ael 6 (fX false k))] ++ [.row 2 2 (ael 6 (fY true k))] ++ zn 3 1 ++ [.v (.int .i64 1)]))), (57, .d (.one (.v (.int .i64 1))))]) (hp := [(8, .box 30 ([.row 2 1 (ael 6 (fX false k))] ++ [.row 2 2 (ael 6 (fY true k))] ++ zn 3 1)), (37, .is pp2 (.box 45 ([.v (.int .i64 3), .v (.int .i64 1), .row 5 0 (pts 7 1 2 (fun _ _ => 0) (fun _ _ => 0) (fun _ => 0))])))]) rfl ⟨hs rfl, hs rfl, hs rfl, hs rfl, hs rfl, hs rfl, hs rfl, hs rfl, hs rfl, trivial⟩ ⟨ho rfl, ho rfl, trivial⟩ rfl) ?_
        refine mV hTT _ rfl ?_
        refine mV hTT (.d (.one (.v (.bool false)))) rfl ?_
        refine mNil ?_
        refine tN ?_
        refine cF rfl ?_
        refine cSkip ?_
        refine tN ?_
        refine cSeq ?_
        refine AW.wk (wk (sl := [(6, .d (.one (.v (.bool false)))), (7, .d (.one (lr 6 (tw k)))), (8, .ptr 8 0), (9, .ptr 37 0), (11, .d (.one (.v (.int .i64 1))))]) (hp := [(8, .box 30 ([.row 2 1 (ael 6 (fX false k))] ++ [.row 2 2 (ael 6 (fY true k))] ++ zn 3 1)), (37, .is pp2 (.box 45 ([.v (.int .i64 3), .v (.int .i64 1), .row 5 0 (pts 7 1 2 (fun _ _ => 0) (fun _ _ => 0) (fun _ => 0))])))]) rfl ⟨hs rfl, hs rfl, hs rfl, hs rfl, hs rfl, trivial⟩ ⟨ho rfl, ho rfl, trivial⟩ rfl) ?_
        refine cReg ?_
        refine mV hTT _ rfl ?_
        refine mV hTT (.d (.agg ([.v (.bool false), lr 6 (tw k)]))) rfl ?_
        refine mN hTT (.box 28 ([.v (.bool false), .v (.slice none 0 0)])) rfl rfl rfl ?_
        refine mS hTT 12 (.box 28 ([.v (.bool false), lr 6 (tw k)])) rfl ?_
        refine mNil ?_
        refine tN ?_
        refine cSeq ?_
        refine cReg ?_
        refine mV hTT (.d (.agg ([.v (.bool false), lr 6 (tw k)]))) rfl ?_
        refine mB hTT (.d (.one (.row 2 1 (fun i' j' => (([.v (.bool false), lr 6 (tw k)])[i' * 2 + j']?).getD (.v undef))))) rfl ?_
        refine mV hTT (.d (.agg ([.v (.bool false), lr 6 (tw k)]))) rfl ?_
        refine mB hTT (.d (.one (.row 2 1 (fun i' j' => (([.v (.bool false), lr 6 (tw k)])[i' * 2 + j']?).getD (.v undef))))) rfl ?_
        refine mV hTT (.d (.agg ([.v (.bool false), lr 6 (tw k)]))) rfl ?_
        refine mV hTT (.d (.agg ([.row 2 1 (fun i' j' => (([.v (.bool false), lr 6 (tw k)])[i' * 2 + j']?).getD (.v undef)), .row 2 1 (fun i' j' => (([.v (.bool false), lr 6 (tw k)])[i' * 2 + j']?).getD (.v undef)), .v (.bool false), lr 6 (tw k)]))) rfl ?_
        refine mN hTT (.box 30 ([.v (.slice none 0 0), .v (.slice none 0 0), .v (.bool false), .v (.slice none 0 0)])) rfl rfl rfl ?_
        refine mS hTT 13 (.box 30 ([.row 2 1 (fun i' j' => (([.v (.bool false), lr 6 (tw k)])[i' * 2 + j']?).getD (.v undef)), .row 2 1 (fun i' j' => (([.v (.bool false), lr 6 (tw k)])[i' * 2 + j']?).getD (.v undef)), .v (.bool false), lr 6 (tw k)])) rfl ?_
        refine mNil ?_
        refine tN ?_
        refine cSeq ?_
        refine AW.wk (wk (sl := [(6, .d (.one (.v (.bool false)))), (8, .ptr 8 0), (9, .ptr 37 0), (11, .d (.one (.v (.int .i64 1)))), (13, .ptr 13 0)]) (hp := [(8, .box 30 ([.row 2 1 (ael 6 (fX false k))] ++ [.row 2 2 (ael 6 (fY true k))] ++ zn 3 1)), (37, .is pp2 (.box 45 ([.v (.int .i64 3), .v (.int .i64 1), .row 5 0 (pts 7 1 2 (fun _ _ => 0) (fun _ _ => 0) (fun _ => 0))]))), (13, .box 30 ([.row 2 1 (fun i' j' => (([.v (.bool false), lr 6 (tw k)])[i' * 2 + j']?).getD (.v undef)), .row 2 1 (fun i' j' => (([.v (.bool false), lr 6 (tw k)])[i' * 2 + j']?).getD (.v undef)), .v (.bool false), lr 6 (tw k)]))]) rfl ⟨hs rfl, hs rfl, hs rfl, hs rfl, hs rfl, trivial⟩ ⟨ho rfl, ho rfl, ho rfl, trivial⟩ rfl) ?_
        refine cReg ?_
        refine mV hTT _ rfl ?_
        refine mV hTT (.d (.agg ([.row 2 1 (fun i' j' => (([.v (.bool false), lr 6 (tw k)])[i' * 2 + j']?).getD (.v undef)), .row 2 1 (fun i' j' => (([.v (.bool false), lr 6 (tw k)])[i' * 2 + j']?).getD (.v undef)), .v (.bool false), lr 6 (tw k)]))) rfl ?_
        refine mV hTT (.d (.agg ([.row 2 1 (fun i' j' => (([.v (.bool false), lr 6 (tw k)])[i' * 2 + j']?).getD (.v undef)), .row 2 1 (fun i' j' => (([.v (.bool false), lr 6 (tw k)])[i' * 2 + j']?).getD (.v undef)), .v (.bool false), lr 6 (tw k), .v (.int .i64 2)]))) rfl ?_
        refine mCL (aTPut (pp := pp2) (mp := 3) (md := 1) (K := 7) (n := 1) (m := 2) (N := 0) (p := (fun _ _ => 0)) (q := (fun _ _ => 0)) (ids := (fun _ => 0)) (x := (cfz 1 (fW k))) (y := (cfz 1 (fW k))) (D := ((B32 ^ k : Nat) : Int)) (id := 2) isW isW isZW (W_ne k) (by omega) (by omega) cfz_z (fun i hi => cfz_z i (by omega)) (by omega) (by omega) (by decide) (by decide) (by decide) (by decide) (by omega) (fun i hi => absurd hi (Nat.not_lt_zero _)) (sm_W k) deg_12 (by decide)) [(0, 37)] [] [] [] rfl rfl ⟨⟨_, _, rfl, AV.le.rfl, rfl⟩, ⟨_, _, rfl, AV.le.rfl, rfl⟩, trivial⟩ ⟨⟨_, _, rfl, rfl, AO.le.rfl, rfl⟩, trivial⟩ trivial ⟨⟨_, 9, _, rfl, rfl, rfl⟩, trivial⟩ ⟨Or.inr ⟨_, _, rfl, by decide, fun _ _ h => by obtain ⟨rfl, rfl⟩ := h; exact ⟨_, rfl⟩⟩, trivial⟩ trivial ?_
        rintro _ _ ⟨rfl, rfl⟩
        refine AL.wk (wk (sl := [(6, .d (.one (.v (.bool false)))), (8, .ptr 8 0), (9, .ptr 37 0), (11, .d (.one (.v (.int .i64 1)))), (13, .ptr 13 0), (68, .ptr 37 0), (69, .d (.agg ([.row 2 1 (fun i' j' => (([.v (.bool false), lr 6 (tw k)])[i' * 2 + j']?).getD (.v undef)), .row 2 1 (fun i' j' => (([.v (.bool false), lr 6 (tw k)])[i' * 2 + j']?).getD (.v undef)), .v (.bool false), lr 6 (tw k)]))), (70, .d (.agg ([.row 2 1 (fun i' j' => (([.v (.bool false), lr 6 (tw k)])[i' * 2 + j']?).getD (.v undef)), .row 2 1 (fun i' j' => (([.v (.bool false), lr 6 (tw k)])[i' * 2 + j']?).getD (.v undef)), .v (.bool false), lr 6 (tw k), .v (.int .i64 2)]))), (71, .d (.one (.v (.int .i64 0))))]) (hp := [(8, .box 30 ([.row 2 1 (ael 6 (fX false k))] ++ [.row 2 2 (ael 6 (fY true k))] ++ zn 3 1)), (37, .is pp2 (.box 45 ([.v (.int .i64 3), .v (.int .i64 1), .row 5 (0 + 1) (pts 7 1 2 (snoc (fun _ _ => 0) 0 (ov ((B32 ^ k : Nat) : Int) (cfz 1 (fW k)))) (snoc (fun _ _ => 0) 0 (ov ((B32 ^ k : Nat) : Int) (cfz 1 (fW k)))) (snoc (fun _ => 0) 0 2))]))), (13, .box 30 ([.row 2 1 (fun i' j' => (([.v (.bool false), lr 6 (tw k)])[i' * 2 + j']?).getD (.v undef)), .row 2 1 (fun i' j' => (([.v (.bool false), lr 6 (tw k)])[i' * 2 + j']?).getD (.v undef)), .v (.bool false), lr 6 (tw k)]))]) rfl ⟨hs rfl, hs rfl, hs rfl, hs rfl, hs rfl, hs rfl, hs rfl, hs rfl, hs rfl, trivial⟩ ⟨ho rfl, ho rfl, ho rfl, trivial⟩ rfl) ?_
        refine mV hTT (.d (.one (.v (.bool true)))) rfl ?_
        refine mV hTT _ rfl ?_
        refine mV hTT _ rfl ?_
        refine mV hTT (.d (.agg ([.row 2 1 (ael 6 (fX false k))] ++ [.row 2 2 (ael 6 (fY true k))] ++ zn 3 1))) rfl ?_
        refine mV hTT (.d (.agg ([.row 2 1 (ael 6 (fX false k))] ++ [.row 2 2 (ael 6 (fY true k))] ++ zn 3 1 ++ [.v (.int .i64 2)]))) rfl ?_
        refine mCL (aTTurnArg (pp := pp2) (mp := 3) (md := 1) (K := 7) (n := 1) (m := 2) (N := (0 + 1)) (p := (snoc (fun _ _ => 0) 0 (ov ((B32 ^ k : Nat) : Int) (cfz 1 (fW k))))) (q := (snoc (fun _ _ => 0) 0 (ov ((B32 ^ k : Nat) : Int) (cfz 1 (fW k))))) (ids := (snoc (fun _ => 0) 0 2)) (x := (cx false k)) (y := (cy true k)) (D := 1) (id := 2) (isA (n := 1) (K := 6) (f := fX false k)) (isA (n := 2) (K := 6) (f := fY true k)) (IsZ.mono (L := 6) (isz 3 1) (by decide)) (by decide) (by omega) (by omega) cx_z cy_z (by omega) (by omega) (by decide) (by decide) (by decide) (by decide) (by omega) (k := 0) (by decide) (fun i hi => absurd hi (Nat.not_lt_zero _)) snoc_at hsm) [(0, 37)] [] [] [] rfl rfl ⟨⟨_, _, rfl, AV.le.rfl, rfl⟩, ⟨_, _, rfl, AV.le.rfl, rfl⟩, trivial⟩ ⟨⟨_, _, rfl, rfl, AO.le.rfl, rfl⟩, trivial⟩ trivial ⟨⟨_, 9, _, rfl, rfl, rfl⟩, trivial⟩ ⟨Or.inr ⟨_, _, rfl, by decide, fun _ _ h => by obtain ⟨rfl, rfl⟩ := h; exact ⟨_, rfl⟩⟩, trivial⟩ trivial ?_
        rintro _ _ ⟨rfl, rfl⟩
        refine AL.wk (wk (sl := [(6, .d (.one (.v (.bool false)))), (8, .ptr 8 0), (9, .ptr 37 0), (11, .d (.one (.v (.int .i64 1)))), (13, .ptr 13 0), (68, .ptr 37 0), (69, .d (.agg ([.row 2 1 (fun i' j' => (([.v (.bool false), lr 6 (tw k)])[i' * 2 + j']?).getD (.v undef)), .row 2 1 (fun i' j' => (([.v (.bool false), lr 6 (tw k)])[i' * 2 + j']?).getD (.v undef)), .v (.bool false), lr 6 (tw k)]))), (70, .d (.agg ([.row 2 1 (fun i' j' => (([.v (.bool false), lr 6 (tw k)])[i' * 2 + j']?).getD (.v undef)), .row 2 1 (fun i' j' => (([.v (.bool false), lr 6 (tw k)])[i' * 2 + j']?).getD (.v undef)), .v (.bool false), lr 6 (tw k), .v (.int .i64 2)]))), (71, .d (.one (.v (.int .i64 0)))), (72, .d (.one (.v (.bool true)))), (73, .d (.one (.v (.bool true)))), (74, .ptr 37 0), (75, .d (.agg ([.row 2 1 (ael 6 (fX false k))] ++ [.row 2 2 (ael 6 (fY true k))] ++ zn 3 1))), (76, .d (.agg ([.row 2 1 (ael 6 (fX false k))] ++ [.row 2 2 (ael 6 (fY true k))] ++ zn 3 1 ++ [.v (.int .i64 2)]))), (77, .d (.one (.v (.int .i64 1))))]) (hp := [(8, .box 30 ([.row 2 1 (ael 6 (fX false k))] ++ [.row 2 2 (ael 6 (fY true k))] ++ zn 3 1)), (37, .is pp2 (.box 45 ([.v (.int .i64 3), .v (.int .i64 1), .row 5 (0 + 1) (pts 7 1 2 (snoc (fun _ _ => 0) 0 (ov ((B32 ^ k : Nat) : Int) (cfz 1 (fW k)))) (snoc (fun _ _ => 0) 0 (ov ((B32 ^ k : Nat) : Int) (cfz 1 (fW k)))) (snoc (fun _ => 0) 0 2))]))), (13, .box 30 ([.row 2 1 (fun i' j' => (([.v (.bool false), lr 6 (tw k)])[i' * 2 + j']?).getD (.v undef)), .row 2 1 (fun i' j' => (([.v (.bool false), lr 6 (tw k)])[i' * 2 + j']?).getD (.v undef)), .v (.bool false), lr 6 (tw k)]))]) rfl ⟨hs rfl, hs rfl, hs rfl, hs rfl, hs rfl, hs rfl, hs rfl, hs rfl, hs rfl, hs rfl, hs rfl, hs rfl, hs rfl, hs rfl, hs rfl, trivial⟩ ⟨ho rfl, ho rfl, ho rfl, trivial⟩ rfl) ?_
        refine mV hTT _ rfl ?_
        refine mV hTT (.d (.one (.v (.bool true)))) rfl ?_
        refine mV hTT _ rfl ?_
        refine mV hTT _ rfl ?_
        refine mC0 (aWakes23) rfl rfl rfl ?_
        refine mV hTT _ rfl ?_
        refine mV hTT _ rfl ?_
        refine mNil ?_
        refine tN ?_
        refine cRet ?_
        exact rQ rfl (AV.le.rfl)
      · skip
        have hsm : smC 1 2 (ov 1 (cx false k)) (ov 1 (cy true k)) := (sm_cut false true k).2 (fun h => hk4 h.1)
        refine cReg ?_
        refine mV hTT _ rfl ?_
        refine mV hTT (.d (.one (.v (.bool false)))) (evb (decide_eq_false (by omega))) ?_
        refine mV hTT _ rfl ?_
        refine mGt rfl rfl ?_
        refine mGt rfl rfl ?_
        refine mU rfl rfl ?_
        refine mGt rfl rfl ?_
        refine mV hTT _ rfl ?_
        refine mNil ?_
        refine tN ?_
        refine cF rfl ?_
        refine cSkip ?_
        refine tN ?_
        refine cSeq ?_
        refine cSeq ?_
        refine AW.wk (wk (sl := [(6, .d (.one (.v (.bool false)))), (7, .d (.one (lr 6 (tw k)))), (8, .ptr 8 0), (9, .ptr 37 0), (11, .d (.one (.v (.int .i64 0))))]) (hp := [(8, .box 30 ([.row 2 1 (ael 6 (fX false k))] ++ [.row 2 2 (ael 6 (fY true k))] ++ zn 3 1)), (37, .is pp2 (.box 45 ([.v (.int .i64 3), .v (.int .i64 1), .v (.slice none 0 0)])))]) rfl ⟨hs rfl, hs rfl, hs rfl, hs rfl, hs rfl, trivial⟩ ⟨ho rfl, ho rfl, trivial⟩ rfl) ?_
        refine cReg ?_
        refine mV hTT _ rfl ?_
        refine mV hTT (.d (.agg ([.row 2 1 (ael 6 (fX false k))] ++ [.row 2 2 (ael 6 (fY true k))] ++ zn 3 1))) rfl ?_
        refine mV hTT (.d (.agg ([.row 2 1 (ael 6 (fX false k))] ++ [.row 2 2 (ael 6 (fY true k))] ++ zn 3 1 ++ [.v (.int .i64 1)]))) rfl ?_
        refine mCL (aTPut (pp := pp2) (mp := 3) (md := 1) (K := 7) (n := 1) (m := 2) (N := 0) (p := (fun _ _ => 0)) (q := (fun _ _ => 0)) (ids := (fun _ => 0)) (x := (cx false k)) (y := (cy true k)) (D := 1) (id := 1) (isA (n := 1) (K := 6) (f := fX false k)) (isA (n := 2) (K := 6) (f := fY true k)) (IsZ.mono (L := 6) (isz 3 1) (by decide)) (by decide) (by omega) (by omega) cx_z cy_z (by omega) (by omega) (by decide) (by decide) (by decide) (by decide) (by omega) (fun i hi => absurd hi (Nat.not_lt_zero _)) hsm deg_12 (by decide)) [(0, 37)] [] [] [] rfl rfl ⟨⟨_, _, rfl, AV.le.rfl, rfl⟩, ⟨_, _, rfl, AV.le.rfl, rfl⟩, trivial⟩ ⟨⟨_, _, rfl, rfl, leo_tab0, rfl⟩, trivial⟩ trivial ⟨⟨_, 9, _, rfl, rfl, rfl⟩, trivial⟩ ⟨Or.inr ⟨_, _, rfl, by decide, fun _ _ h => by obtain ⟨rfl, rfl⟩ := h; exact ⟨_, rfl⟩⟩, trivial⟩ trivial ?_
        rintro _ _ ⟨rfl, rfl⟩
        refine AL.wk (wk (sl := [(6, .d (.one (.v (.bool false)))), (7, .d (.one (lr 6 (tw k)))), (8, .ptr 8 0), (9, .ptr 37 0), (11, .d (.one (.v (.int .i64 0)))), (54, .ptr 37 0), (55, .d (.agg ([.row 2 1 (ael 6 (fX false k))] ++ [.row 2 2 (ael 6 (fY true k))] ++ zn 3 1))), (56, .d (.agg ([.row 2 1 (ael 6 (fX false k))] ++ [.row 2 2 (ael 6 (fY true k))] ++ zn 3 1 ++ [.v (.int .i64 1)]))), (57, .d (.one (.v (.int .i64 0))))]) (hp := [(8, .box 30 ([.row 2 1 (ael 6 (fX false k))] ++ [.row 2 2 (ael 6 (fY true k))] ++ zn 3 1)), (37, .is pp2 (.box 45 ([.v (.int .i64 3), .v (.int .i64 1), .row 5 (0 + 1) (pts 7 1 2 (snoc (fun _ _ => 0) 0 (ov 1 (cx false k))) (snoc (fun _ _ => 0) 0 (ov 1 (cy true k))) (snoc (fun _ => 0) 0 1))])))]) rfl ⟨hs rfl, hs rfl, hs rfl, hs rfl, hs rfl, hs rfl, hs rfl, hs rfl, hs rfl, trivial⟩ ⟨ho rfl, ho rfl, trivial⟩ rfl) ?_
        refine mV hTT _ rfl ?_
        refine mV hTT (.d (.one (.v (.bool false)))) rfl ?_
        refine mNil ?_
        refine tN ?_
        refine cF rfl ?_
        refine cSkip ?_
        refine tN ?_
        refine cSeq ?_
        refine AW.wk (wk (sl := [(6, .d (.one (.v (.bool false)))), (7, .d (.one (lr 6 (tw k)))), (8, .ptr 8 0), (9, .ptr 37 0), (11, .d (.one (.v (.int .i64 0))))]) (hp := [(8, .box 30 ([.row 2 1 (ael 6 (fX false k))] ++ [.row 2 2 (ael 6 (fY true k))] ++ zn 3 1)), (37, .is pp2 (.box 45 ([.v (.int .i64 3), .v (.int .i64 1), .row 5 (0 + 1) (pts 7 1 2 (snoc (fun _ _ => 0) 0 (ov 1 (cx false k))) (snoc (fun _ _ => 0) 0 (ov 1 (cy true k))) (snoc (fun _ => 0) 0 1))])))]) rfl ⟨hs rfl, hs rfl, hs rfl, hs rfl, hs rfl, trivial⟩ ⟨ho rfl, ho rfl, trivial⟩ rfl) ?_
        refine cReg ?_
        refine mV hTT _ rfl ?_
        refine mV hTT (.d (.agg ([.v (.bool false), lr 6 (tw k)]))) rfl ?_
        refine mN hTT (.box 28 ([.v (.bool false), .v (.slice none 0 0)])) rfl rfl rfl ?_
        refine mS hTT 12 (.box 28 ([.v (.bool false), lr 6 (tw k)])) rfl ?_
        refine mNil ?_
        refine tN ?_
        refine cSeq ?_
        refine cReg ?_
        refine mV hTT (.d (.agg ([.v (.bool false), lr 6 (tw k)]))) rfl ?_
        refine mB hTT (.d (.one (.row 2 1 (fun i' j' => (([.v (.bool false), lr 6 (tw k)])[i' * 2 + j']?).getD (.v undef))))) rfl ?_
        refine mV hTT (.d (.agg ([.v (.bool false), lr 6 (tw k)]))) rfl ?_
        refine mB hTT (.d (.one (.row 2 1 (fun i' j' => (([.v (.bool false), lr 6 (tw k)])[i' * 2 + j']?).getD (.v undef))))) rfl ?_
        refine mV hTT (.d (.agg ([.v (.bool false), lr 6 (tw k)]))) rfl ?_
        refine mV hTT (.d (.agg ([.row 2 1 (fun i' j' => (([.v (.bool false), lr 6 (tw k)])[i' * 2 + j']?).getD (.v undef)), .row 2 1 (fun i' j' => (([.v (.bool false), lr 6 (tw k)])[i' * 2 + j']?).getD (.v undef)), .v (.bool false), lr 6 (tw k)]))) rfl ?_
        refine mN hTT (.box 30 ([.v (.slice none 0 0), .v (.slice none 0 0), .v (.bool false), .v (.slice none 0 0)])) rfl rfl rfl ?_
        refine mS hTT 13 (.box 30 ([.row 2 1 (fun i' j' => (([.v (.bool false), lr 6 (tw k)])[i' * 2 + j']?).getD (.v undef)), .row 2 1 (fun i' j' => (([.v (.bool false), lr 6 (tw k)])[i' * 2 + j']?).getD (.v undef)), .v (.bool false), lr 6 (tw k)])) rfl ?_
        refine mNil ?_
        refine tN ?_
        refine cSeq ?_
        refine AW.wk (wk (sl := [(6, .d (.one (.v (.bool false)))), (8, .ptr 8 0), (9, .ptr 37 0), (11, .d (.one (.v (.int .i64 0)))), (13, .ptr 13 0)]) (hp := [(8, .box 30 ([.row 2 1 (ael 6 (fX false k))] ++ [.row 2 2 (ael 6 (fY true k))] ++ zn 3 1)), (37, .is pp2 (.box 45 ([.v (.int .i64 3), .v (.int .i64 1), .row 5 (0 + 1) (pts 7 1 2 (snoc (fun _ _ => 0) 0 (ov 1 (cx false k))) (snoc (fun _ _ => 0) 0 (ov 1 (cy true k))) (snoc (fun _ => 0) 0 1))]))), (13, .box 30 ([.row 2 1 (fun i' j' => (([.v (.bool false), lr 6 (tw k)])[i' * 2 + j']?).getD (.v undef)), .row 2 1 (fun i' j' => (([.v (.bool false), lr 6 (tw k)])[i' * 2 + j']?).getD (.v undef)), .v (.bool false), lr 6 (tw k)]))]) rfl ⟨hs rfl, hs rfl, hs rfl, hs rfl, hs rfl, trivial⟩ ⟨ho rfl, ho rfl, ho rfl, trivial⟩ rfl) ?_
        refine cReg ?_
        refine mV hTT _ rfl ?_
        refine mV hTT (.d (.agg ([.row 2 1 (fun i' j' => (([.v (.bool false), lr 6 (tw k)])[i' * 2 + j']?).getD (.v undef)), .row 2 1 (fun i' j' => (([.v (.bool false), lr 6 (tw k)])[i' * 2 + j']?).getD (.v undef)), .v (.bool false), lr 6 (tw k)]))) rfl ?_
        refine mV hTT (.d (.agg ([.row 2 1 (fun i' j' => (([.v (.bool false), lr 6 (tw k)])[i' * 2 + j']?).getD (.v undef)), .row 2 1 (fun i' j' => (([.v (.bool false), lr 6 (tw k)])[i' * 2 + j']?).getD (.v undef)), .v (.bool false), lr 6 (tw k), .v (.int .i64 2)]))) rfl ?_
        refine mCL (aTPut (pp := pp2) (mp := 3) (md := 1) (K := 7) (n := 1) (m := 2) (N := (0 + 1)) (p := (snoc (fun _ _ => 0) 0 (ov 1 (cx false k)))) (q := (snoc (fun _ _ => 0) 0 (ov 1 (cy true k)))) (ids := (snoc (fun _ => 0) 0 1)) (x := (cfz 1 (fW k))) (y := (cfz 1 (fW k))) (D := ((B32 ^ k : Nat) : Int)) (id := 2) isW isW isZW (W_ne k) (by omega) (by omega) cfz_z (fun i hi => cfz_z i (by omega)) (by omega) (by omega) (by decide) (by decide) (by decide) (by decide) (by omega) (fun i hi => by obtain rfl : i = 0 := (by omega); rw [snoc_at]; decide) (sm_W k) deg_12 (by decide)) [(0, 37)] [] [] [] rfl rfl ⟨⟨_, _, rfl, AV.le.rfl, rfl⟩, ⟨_, _, rfl, AV.le.rfl, rfl⟩, trivial⟩ ⟨⟨_, _, rfl, rfl, AO.le.rfl, rfl⟩, trivial⟩ trivial ⟨⟨_, 9, _, rfl, rfl, rfl⟩, trivial⟩ ⟨Or.inr ⟨_, _, rfl, by decide, fun _ _ h => by obtain ⟨rfl, rfl⟩ := h; exact ⟨_, rfl⟩⟩, trivial⟩ trivial ?_
        rintro _ _ ⟨rfl, rfl⟩
        refine AL.wk (wk (sl := [(6, .d (.one (.v (.bool false)))), (8, .ptr 8 0), (9, .ptr 37 0), (11, .d (.one (.v (.int .i64 0)))), (13, .ptr 13 0), (68, .ptr 37 0), (69, .d (.agg ([.row 2 1 (fun i' j' => (([.v (.bool false), lr 6 (tw k)])[i' * 2 + j']?).getD (.v undef)), .row 2 1 (fun i' j' => (([.v (.bool false), lr 6 (tw k)])[i' * 2 + j']?).getD (.v undef)), .v (.bool false), lr 6 (tw k)]))), (70, .d (.agg ([.row 2 1 (fun i' j' => (([.v (.bool false), lr 6 (tw k)])[i' * 2 + j']?).getD (.v undef)), .row 2 1 (fun i' j' => (([.v (.bool false), lr 6 (tw k)])[i' * 2 + j']?).getD (.v undef)), .v (.bool false), lr 6 (tw k), .v (.int .i64 2)]))), (71, .d (.one (.v (.int .i64 0))))]) (hp := [(8, .box 30 ([.row 2 1 (ael 6 (fX false k))] ++ [.row 2 2 (ael 6 (fY true k))] ++ zn 3 1)), (37, .is pp2 (.box 45 ([.v (.int .i64 3), .v (.int .i64 1), .row 5 ((0 + 1) + 1) (pts 7 1 2 (snoc (snoc (fun _ _ => 0) 0 (ov 1 (cx false k))) (0 + 1) (ov ((B32 ^ k : Nat) : Int) (cfz 1 (fW k)))) (snoc (snoc (fun _ _ => 0) 0 (ov 1 (cy true k))) (0 + 1) (ov ((B32 ^ k : Nat) : Int) (cfz 1 (fW k)))) (snoc (snoc (fun _ => 0) 0 1) (0 + 1) 2))]))), (13, .box 30 ([.row 2 1 (fun i' j' => (([.v (.bool false), lr 6 (tw k)])[i' * 2 + j']?).getD (.v undef)), .row 2 1 (fun i' j' => (([.v (.bool false), lr 6 (tw k)])[i' * 2 + j']?).getD (.v undef)), .v (.bool false), lr 6 (tw k)]))]) rfl ⟨hs rfl, hs rfl, hs rfl, hs rfl, hs rfl, hs rfl, hs rfl, hs rfl, hs rfl, trivial⟩ ⟨ho rfl, ho rfl, ho rfl, trivial⟩ rfl) ?_
        refine mV hTT (.d (.one (.v (.bool true)))) rfl ?_
        refine mV hTT _ rfl ?_
        refine mV hTT _ rfl ?_
        refine mV hTT (.d (.agg ([.row 2 1 (ael 6 (fX false k))] ++ [.row 2 2 (ael 6 (fY true k))] ++ zn 3 1))) rfl ?_
        refine mV hTT (.d (.agg ([.row 2 1 (ael 6 (fX false k))] ++ [.row 2 2 (ael 6 (fY true k))] ++ zn 3 1 ++ [.v (.int .i64 2)]))) rfl ?_
        refine mCL (aTTurn (pp := pp2) (mp := 3) (md := 1) (K := 7) (n := 1) (m := 2) (N := ((0 + 1) + 1)) (p := (snoc (snoc (fun _ _ => 0) 0 (ov 1 (cx false k))) (0 + 1) (ov ((B32 ^ k : Nat) : Int) (cfz 1 (fW k))))) (q := (snoc (snoc (fun _ _ => 0) 0 (ov 1 (cy true k))) (0 + 1) (ov ((B32 ^ k : Nat) : Int) (cfz 1 (fW k))))) (ids := (snoc (snoc (fun _ => 0) 0 1) (0 + 1) 2)) (x := (cx false k)) (y := (cy true k)) (D := 1) (id := 2) (isA (n := 1) (K := 6) (f := fX false k)) (isA (n := 2) (K := 6) (f := fY true k)) (IsZ.mono (L := 6) (isz 3 1) (by decide)) (by decide) (by omega) (by omega) cx_z cy_z (by omega) (by omega) (by decide) (by decide) (by decide) (by decide) (by omega) (k := (0 + 1)) (by decide) (fun i hi => by obtain rfl : i = 0 := (by omega); rw [snoc_ne (by omega), snoc_at]; decide) snoc_at hsm deg_12) [(0, 37)] [] [] [] rfl rfl ⟨⟨_, _, rfl, AV.le.rfl, rfl⟩, ⟨_, _, rfl, AV.le.rfl, rfl⟩, trivial⟩ ⟨⟨_, _, rfl, rfl, AO.le.rfl, rfl⟩, trivial⟩ trivial ⟨⟨_, 9, _, rfl, rfl, rfl⟩, trivial⟩ ⟨Or.inr ⟨_, _, rfl, by decide, fun _ _ h => by obtain ⟨rfl, cc, rfl⟩ := h; exact ⟨_, rfl⟩⟩, trivial⟩ trivial ?_
        rintro _ _ ⟨rfl, cc, rfl⟩
        refine AL.wk (wk (sl := [(6, .d (.one (.v (.bool false)))), (8, .ptr 8 0), (9, .ptr 37 0), (11, .d (.one (.v (.int .i64 0)))), (13, .ptr 13 0), (68, .ptr 37 0), (69, .d (.agg ([.row 2 1 (fun i' j' => (([.v (.bool false), lr 6 (tw k)])[i' * 2 + j']?).getD (.v undef)), .row 2 1 (fun i' j' => (([.v (.bool false), lr 6 (tw k)])[i' * 2 + j']?).getD (.v undef)), .v (.bool false), lr 6 (tw k)]))), (70, .d (.agg ([.row 2 1 (fun i' j' => (([.v (.bool false), lr 6 (tw k)])[i' * 2 + j']?).getD (.v undef)), .row 2 1 (fun i' j' => (([.v (.bool false), lr 6 (tw k)])[i' * 2 + j']?).getD (.v undef)), .v (.bool false), lr 6 (tw k), .v (.int .i64 2)]))), (71, .d (.one (.v (.int .i64 0)))), (72, .d (.one (.v (.bool true)))), (73, .d (.one (.v (.bool true)))), (74, .ptr 37 0), (75, .d (.agg ([.row 2 1 (ael 6 (fX false k))] ++ [.row 2 2 (ael 6 (fY true k))] ++ zn 3 1))), (76, .d (.agg ([.row 2 1 (ael 6 (fX false k))] ++ [.row 2 2 (ael 6 (fY true k))] ++ zn 3 1 ++ [.v (.int .i64 2)]))), (77, .d (.one (.v (.int .i64 0))))]) (hp := [(8, .box 30 ([.row 2 1 (ael 6 (fX false k))] ++ [.row 2 2 (ael 6 (fY true k))] ++ zn 3 1)), (37, .is pp2 (.box 45 ([.v (.int .i64 3), .v (.int .i64 1), cc]))), (13, .box 30 ([.row 2 1 (fun i' j' => (([.v (.bool false), lr 6 (tw k)])[i' * 2 + j']?).getD (.v undef)), .row 2 1 (fun i' j' => (([.v (.bool false), lr 6 (tw k)])[i' * 2 + j']?).getD (.v undef)), .v (.bool false), lr 6 (tw k)]))]) rfl ⟨hs rfl, hs rfl, hs rfl, hs rfl, hs rfl, hs rfl, hs rfl, hs rfl, hs rfl, hs rfl, hs rfl, hs rfl, hs rfl, hs rfl, hs rfl, trivial⟩ ⟨ho rfl, ho rfl, ho rfl, trivial⟩ rfl) ?_
        refine mV hTT _ rfl ?_
        refine mV hTT (.d (.one (.v (.bool true)))) rfl ?_
        refine mV hTT _ rfl ?_
        refine mV hTT _ rfl ?_
        refine mC0 (aWakes23) rfl rfl rfl ?_
        refine mV hTT _ rfl ?_
        refine mV hTT _ rfl ?_
        refine mNil ?_
        refine tN ?_
        refine cRet ?_
        exact rQ rfl (AV.le.rfl)
  · skip
    cases y
    · skip
      refine cReg ?_
      refine mV hTT _ rfl ?_
      refine mNil ?_
      refine tN ?_
      refine cT rfl ?_
      refine cReg ?_
      refine mV hTT _ rfl ?_
      refine mV hTT (.d (.agg ([.v (.bool false), lr 6 (tw k)]))) rfl ?_
      refine mB hTT (.d (.one (.row 2 1 (fun i' j' => (([.v (.bool false), lr 6 (tw k)])[i' * 2 + j']?).getD (.v undef))))) rfl ?_
      refine mV hTT (.ptr 8 0) rfl ?_
      refine mS hTT 8 (.box 30 ([.row 2 1 (fun i' j' => (([.v (.bool false), lr 6 (tw k)])[i' * 2 + j']?).getD (.v undef))] ++ [.row 2 1 (zel 3 (oc 1))] ++ zn 3 1)) rfl ?_
      refine mNil ?_
      refine tN ?_
      refine cSeq ?_
      refine cSeq ?_
      refine cReg ?_
      refine mV hTT _ rfl ?_
      refine mNil ?_
      refine tN ?_
      refine cF rfl ?_
      refine cSkip ?_
      refine tN ?_
      refine cSeq ?_
      refine AW.wk (wk (sl := [(0, .d (.one (.v (.int .i64 ((k + 1 : Nat) : Int))))), (1, .d (.one (.v (.bool true)))), (2, .d (.one (.v (.bool false)))), (6, .d (.one (.v (.bool false)))), (14, .d (.one (.v (.int .i64 n)))), (15, .d (.one (.v (.int .i64 (n % (4 : Int)))))), (16, .d (.one (.v (.int .i64 ((k + 1 : Nat) : Int))))), (17, .d (.one (.v (.int .i64 ((k + 1 : Nat) : Int))))), (18, .d (.one (.row 1 (k + 1) (fun p' q' => if p' = k then (([.v (.int .u32 1)])[q']?).getD (.v undef) else (fun _ j => .v ((([Value.int .u32 0] : List Value)[j]?).getD undef)) p' q')))), (7, .d (.one (lr 6 (tw k)))), (19, .d (.one (.row 1 (k + 1) (fun p' q' => if p' = k then (([.v (.int .u32 1)])[q']?).getD (.v undef) else (fun _ j => .v ((([Value.int .u32 0] : List Value)[j]?).getD undef)) p' q')))), (20, .d (.one (.v (.int .i64 ((k + 1 : Nat) : Int))))), (21, .d (.one (.v (.int .i64 ((k : Nat) : Int))))), (22, .dead), (23, .d (.agg ([.row 2 1 (zel 3 (oc 1))] ++ [.row 2 1 (zel 3 (oc 1))] ++ zn 3 1))), (8, .ptr 8 0), (24, .d (.one (.v (.bool true)))), (25, .d (.one (lr 6 (tw k)))), (26, .d (.agg ([.v (.bool false), lr 6 (tw k)]))), (27, .d (.one (.row 2 1 (fun i' j' => (([.v (.bool false), lr 6 (tw k)])[i' * 2 + j']?).getD (.v undef))))), (28, .ptr 8 0), (29, .d (.one (.v (.bool false))))]) (hp := [(8, .box 30 ([.row 2 1 (ael 6 (fX true k))] ++ [.row 2 1 (ael 6 (fY false k))] ++ zn 3 1))]) rfl ⟨hs rfl, hs rfl, hs rfl, hs rfl, hs rfl, hs rfl, hs rfl, hs rfl, hs rfl, hs rfl, hs rfl, hs rfl, hs rfl, hs rfl, hs rfl, hs rfl, hs rfl, hs rfl, hs rfl, hs rfl, hs rfl, hs rfl, trivial⟩ ⟨ho' rfl (leo_c4 (t := 30) (le_x1 (k := k)) (le_y0 (k := k))), trivial⟩ rfl) ?_
      refine AW.wk (wk (sl := [(0, .d (.one (.v (.int .i64 ((k + 1 : Nat) : Int))))), (1, .d (.one (.v (.bool true)))), (2, .d (.one (.v (.bool false)))), (6, .d (.one (.v (.bool false)))), (7, .d (.one (lr 6 (tw k)))), (8, .ptr 8 0)]) (hp := [(8, .box 30 ([.row 2 1 (ael 6 (fX true k))] ++ [.row 2 1 (ael 6 (fY false k))] ++ zn 3 1))]) rfl ⟨hs rfl, hs rfl, hs rfl, hs rfl, hs rfl, hs rfl, trivial⟩ ⟨ho rfl, trivial⟩ rfl) ?_
      refine cReg ?_
      refine mCL (aTNew (n := 3) (d := 1) (by decide) (by decide) (by decide) (by decide)) [] [(23, 37)] [] [] rfl rfl ⟨⟨_, _, rfl, AV.le.rfl, rfl⟩, ⟨_, _, rfl, AV.le.rfl, rfl⟩, trivial⟩ trivial ⟨⟨rfl, rfl⟩, trivial⟩ trivial trivial trivial ?_
      rintro _ _ ⟨rfl, rfl⟩
      refine AL.wk (wk (sl := [(0, .d (.one (.v (.int .i64 ((k + 1 : Nat) : Int))))), (1, .d (.one (.v (.bool true)))), (2, .d (.one (.v (.bool false)))), (6, .d (.one (.v (.bool false)))), (7, .d (.one (lr 6 (tw k)))), (8, .ptr 8 0), (37, .ptup 37 [.one (.v (.int .i64 0))])]) (hp := [(8, .box 30 ([.row 2 1 (ael 6 (fX true k))] ++ [.row 2 1 (ael 6 (fY false k))] ++ zn 3 1)), (37, .box 45 ([.v (.int .i64 3), .v (.int .i64 1), .v (.slice none 0 0)]))]) rfl ⟨hs rfl, hs rfl, hs rfl, hs rfl, hs rfl, hs rfl, hs rfl, trivial⟩ ⟨ho rfl, ho rfl, trivial⟩ rfl) ?_
      refine mNm 37 rfl (fun pp3 => ?_)
      refine mV hTT _ rfl ?_
      refine mV hTT _ rfl ?_
      refine mV hTT _ rfl ?_
      refine mV hTT _ rfl ?_
      refine mV hTT _ rfl ?_
      refine mNil ?_
      refine tN ?_
      refine cSeq ?_
      refine cSeq ?_
      refine cReg ?_
      refine mV hTT _ rfl ?_
      refine mV hTT (.d (.one (.v (.bool false)))) rfl ?_
      refine mV hTT _ rfl ?_
      refine mV hTT _ rfl ?_
      refine mX (.d (.one (.v (.bool false)))) (xPn false rfl (Or.inl ⟨rfl, rfl⟩) Try.underlying32 rfl rfl) ?_
      refine mV hTT _ rfl ?_
      refine mNil ?_
      refine tN ?_
      refine cF rfl ?_
      refine cSkip ?_
      refine tN ?_
      refine cSeq ?_
      refine cReg ?_
      refine mV hTT _ rfl ?_
      refine mNil ?_
      refine tN ?_
      refine cSeq ?_
      refine cSeq ?_
      refine AW.wk (wk (sl := [(0, .d (.one (.v (.int .i64 ((k + 1 : Nat) : Int))))), (1, .d (.one (.v (.bool true)))), (2, .d (.one (.v (.bool false)))), (6, .d (.one (.v (.bool false)))), (7, .d (.one (lr 6 (tw k)))), (8, .ptr 8 0), (9, .ptr 37 0), (11, .d (.one (.v (.int .i64 0))))]) (hp := [(8, .box 30 ([.row 2 1 (ael 6 (fX true k))] ++ [.row 2 1 (ael 6 (fY false k))] ++ zn 3 1)), (37, .is pp3 (.box 45 ([.v (.int .i64 3), .v (.int .i64 1), .v (.slice none 0 0)])))]) rfl ⟨hs rfl, hs rfl, hs rfl, hs rfl, hs rfl, hs rfl, hs rfl, hs rfl, trivial⟩ ⟨ho rfl, ho rfl, trivial⟩ rfl) ?_
      by_cases hk4 : 4 ≤ k
      · skip
        have hsm : ¬ smC 1 2 (ov 1 (cx true k)) (ov 1 (cy false k)) := fun h => (sm_cut true false k).1 h ⟨hk4, Or.inl rfl⟩
        refine cReg ?_
        refine mV hTT _ rfl ?_
        refine mV hTT (.d (.one (.v (.bool true)))) (evb (decide_eq_true (by omega))) ?_
        refine mV hTT _ rfl ?_
        refine mV hTT _ rfl ?_
        refine mV hTT _ rfl ?_
        refine mGt rfl rfl ?_
        refine mV hTT _ rfl ?_
        refine mV hTT _ rfl ?_
        refine mNil ?_
        refine tN ?_
        refine cT rfl ?_
        refine cReg ?_
        refine mV hTT _ rfl ?_
        refine mNil ?_
        refine tN ?_
        refine cSeq ?_
        refine cSeq ?_
        refine AW.wk (wk (sl := [(6, .d (.one (.v (.bool false)))), (7, .d (.one (lr 6 (tw k)))), (8, .ptr 8 0), (9, .ptr 37 0), (11, .d (.one (.v (.int .i64 1))))]) (hp := [(8, .box 30 ([.row 2 1 (ael 6 (fX true k))] ++ [.row 2 1 (ael 6 (fY false k))] ++ zn 3 1)), (37, .is pp3 (.box 45 ([.v (.int .i64 3), .v (.int .i64 1), .v (.slice none 0 0)])))]) rfl ⟨hs rfl, hs rfl, hs rfl, hs rfl, hs rfl, trivial⟩ ⟨ho rfl, ho rfl, trivial⟩ rfl) ?_
        refine cReg ?_
        refine mV hTT _ rfl ?_
        refine mV hTT (.d (.agg ([.row 2 1 (ael 6 (fX true k))] ++ [.row 2 1 (ael 6 (fY false k))] ++ zn 3 1))) rfl ?_
        refine mV hTT (.d (.agg ([.row 2 1 (ael 6 (fX true k))] ++ [.row 2 1 (ael 6 (fY false k))] ++ zn 3 1 ++ [.v (.int .i64 1)]))) rfl ?_
        refine mCL (aTPutArg (pp := pp3) (mp := 3) (md := 1) (K := 7) (n := 1) (m := 2) (N := 0) (p := (fun _ _ => 0)) (q := (fun _ _ => 0)) (ids := (fun _ => 0)) (x := (cx true k)) (y := (cy false k)) (D := 1) (id := 1) (isA (n := 1) (K := 6) (f := fX true k)) (isA (n := 1) (K := 6) (f := fY false k)) (IsZ.mono (L := 6) (isz 3 1) (by decide)) (by decide) (by omega) (by omega) cx_z cy_z (by omega) (by omega) (by decide) (by decide) (by decide) (by decide) (by omega) (fun i hi => absurd hi (Nat.not_lt_zero _)) hsm ) [(0, 37)] [] [] [] rfl rfl ⟨⟨_, _, rfl, AV.le.rfl, rfl⟩, ⟨_, _, rfl, AV.le.rfl, rfl⟩, trivial⟩ ⟨⟨_, _, rfl, rfl, leo_tab0, rfl⟩, trivial⟩ trivial ⟨⟨_, 9, _, rfl, rfl, rfl⟩, trivial⟩ ⟨Or.inr ⟨_, _, rfl, by decide, fun _ _ h => by obtain ⟨rfl, rfl⟩ := h; exact ⟨_, rfl⟩⟩, trivial⟩ trivial ?_
        rintro _ _ ⟨rfl, rfl⟩
        refine AL.wk (wk (sl := [(6, .d (.one (.v (.bool false)))), (7, .d (.one (lr 6 (tw k)))), (8, .ptr 8 0), (9, .ptr 37 0), (11, .d (.one (.v (.int .i64 1)))), (54, .ptr 37 0), (55, .d (.agg ([.row 2 1 (ael 6 (fX true k))] ++ [.row 2 1 (ael 6 (fY false k))] ++ zn 3 1))), (56, .d (.agg ([.row 2 1 (ael 6 (fX true k))] ++ [.row 2 1 (ael 6 (fY false k))] ++ zn 3 1 ++ [.v (.int .i64 1)]))), (57, .d (.one (.v (.int .i64 1))))]) (hp := [(8, .box 30 ([.row 2 1 (ael 6 (fX true k))] ++ [.row 2 1 (ael 6 (fY false k))] ++ zn 3 1)), (37, .is pp3 (.box 45 ([.v (.int .i64 3), .v (.int .i64 1), .row 5 0 (pts 7 1 2 (fun _ _ => 0) (fun _ _ => 0) (fun _ => 0))])))]) rfl ⟨hs rfl, hs rfl, hs rfl, hs rfl, hs rfl, hs rfl, hs rfl, hs rfl, hs rfl, trivial⟩ ⟨ho rfl, ho rfl, trivial⟩ rfl) ?_
        refine mV hTT _ rfl ?_
        refine mV hTT (.d (.one (.v (.bool false)))) rfl ?_
        refine mNil ?_
        refine tN ?_
        refine cF rfl ?_
        refine cSkip ?_
        refine tN ?_
        refine cSeq ?_
        refine AW.wk (wk (sl := [(6, .d (.one (.v (.bool false)))), (7, .d (.one (lr 6 (tw k)))), (8, .ptr 8 0), (9, .ptr 37 0), (11, .d (.one (.v (.int .i64 1))))]) (hp := [(8, .box 30 ([.row 2 1 (ael 6 (fX true k))] ++ [.row 2 1 (ael 6 (fY false k))] ++ zn 3 1)), (37, .is pp3 (.box 45 ([.v (.int .i64 3), .v (.int .i64 1), .row 5 0 (pts 7 1 2 (fun _ _ => 0) (fun _ _ => 0) (fun _ => 0))])))]) rfl ⟨hs rfl, hs rfl, hs rfl, hs rfl, hs rfl, trivial⟩ ⟨ho rfl, ho rfl, trivial⟩ rfl) ?_
        refine cReg ?_
        refine mV hTT _ rfl ?_
        refine mV hTT (.d (.agg ([.v (.bool false), lr 6 (tw k)]))) rfl ?_
        refine mN hTT (.box 28 ([.v (.bool false), .v (.slice none 0 0)])) rfl rfl rfl ?_
        refine mS hTT 12 (.box 28 ([.v (.bool false), lr 6 (tw k)])) rfl ?_
        refine mNil ?_
        refine tN ?_
        refine cSeq ?_
        refine cReg ?_
        refine mV hTT (.d (.agg ([.v (.bool false), lr 6 (tw k)]))) rfl ?_
        refine mB hTT (.d (.one (.row 2 1 (fun i' j' => (([.v (.bool false), lr 6 (tw k)])[i' * 2 + j']?).getD (.v undef))))) rfl ?_
        refine mV hTT (.d (.agg ([.v (.bool false), lr 6 (tw k)]))) rfl ?_
        refine mB hTT (.d (.one (.row 2 1 (fun i' j' => (([.v (.bool false), lr 6 (tw k)])[i' * 2 + j']?).getD (.v undef))))) rfl ?_
        refine mV hTT (.d (.agg ([.v (.bool false), lr 6 (tw k)]))) rfl ?_
        refine mV hTT (.d (.agg ([.row 2 1 (fun i' j' => (([.v (.bool false), lr 6 (tw k)])[i' * 2 + j']?).getD (.v undef)), .row 2 1 (fun i' j' => (([.v (.bool false), lr 6 (tw k)])[i' * 2 + j']?).getD (.v undef)), .v (.bool false), lr 6 (tw k)]))) rfl ?_
        refine mN hTT (.box 30 ([.v (.slice none 0 0), .v (.slice none 0 0), .v (.bool false), .v (.slice none 0 0)])) rfl rfl rfl ?_
        refine mS hTT 13 (.box 30 ([.row 2 1 (fun i' j' => (([.v (.bool false), lr 6 (tw k)])[i' * 2 + j']?).getD (.v undef)), .row 2 1 (fun i' j' => (([.v (.bool false), lr 6 (tw k)])[i' * 2 + j']?).getD (.v undef)), .v (.bool false), lr 6 (tw k)])) rfl ?_
        refine mNil ?_
        refine tN ?_
        refine cSeq ?_
        refine AW.wk (wk (sl := [(6, .d (.one (.v (.bool false)))), (8, .ptr 8 0), (9, .ptr 37 0), (11, .d (.one (.v (.int .i64 1)))), (13, .ptr 13 0)]) (hp := [(8, .box 30 ([.row 2 1 (ael 6 (fX true k))] ++ [.row 2 1 (ael 6 (fY false k))] ++ zn 3 1)), (37, .is pp3 (.box 45 ([.v (.int .i64 3), .v (.int .i64 1), .row 5 0 (pts 7 1 2 (fun _ _ => 0) (fun _ _ => 0) (fun _ => 0))]))), (13, .box 30 ([.row 2 1 (fun i' j' => (([.v (.bool false), lr 6 (tw k)])[i' * 2 + j']?).getD (.v undef)), .row 2 1 (fun i' j' => (([.v (.bool false), lr 6 (tw k)])[i' * 2 + j']?).getD (.v undef)), .v (.bool false), lr 6 (tw k)]))]) rfl ⟨hs rfl, hs rfl, hs rfl, hs rfl, hs rfl, trivial⟩ ⟨ho rfl, ho rfl, ho rfl, trivial⟩ rfl) ?_
        refine cReg ?_
        refine mV hTT _ rfl ?_
        refine mV hTT (.d (.agg ([.row 2 1 (fun i' j' => (([.v (.bool false), lr 6 (tw k)])[i' * 2 + j']?).getD (.v undef)), .row 2 1 (fun i' j' => (([.v (.bool false), lr 6 (tw k)])[i' * 2 + j']?).getD (.v undef)), .v (.bool false), lr 6 (tw k)]))) rfl ?_
        refine mV hTT (.d (.agg ([.row 2 1 (fun i' j' => (([.v (.bool false), lr 6 (tw k)])[i' * 2 + j']?).getD (.v undef)), .row 2 1 (fun i' j' => (([.v (.bool false), lr 6 (tw k)])[i' * 2 + j']?).getD (.v undef)), .v (.bool false), lr 6 (tw k), .v (.int .i64 2)]))) rfl ?_
        refine mCL (aTPut (pp := pp3) (mp := 3) (md := 1) (K := 7) (n := 1) (m := 2) (N := 0) (p := (fun _ _ => 0)) (q := (fun _ _ => 0)) (ids := (fun _ => 0)) (x := (cfz 1 (fW k))) (y := (cfz 1 (fW k))) (D := ((B32 ^ k : Nat) : Int)) (id := 2) isW isW isZW (W_ne k) (by omega) (by omega) cfz_z (fun i hi => cfz_z i (by omega)) (by omega) (by omega) (by decide) (by decide) (by decide) (by decide) (by omega) (fun i hi => absurd hi (Nat.not_lt_zero _)) (sm_W k) deg_12 (by decide)) [(0, 37)] [] [] [] rfl rfl ⟨⟨_, _, rfl, AV.le.rfl, rfl⟩, ⟨_, _, rfl, AV.le.rfl, rfl⟩, trivial⟩ ⟨⟨_, _, rfl, rfl, AO.le.rfl, rfl⟩, trivial⟩ trivial ⟨⟨_, 9, _, rfl, rfl, rfl⟩, trivial⟩ ⟨Or.inr ⟨_, _, rfl, by decide, fun _ _ h => by obtain ⟨rfl, rfl⟩ := h; exact ⟨_, rfl⟩⟩, trivial⟩ trivial ?_
        rintro _ _ ⟨rfl, rfl⟩
        refine AL.wk (wk (sl := [(6, .d (.one (.v (.bool false)))), (8, .ptr 8 0), (9, .ptr 37 0), (11, .d (.one (.v (.int .i64 1)))), (13, .ptr 13 0), (68, .ptr 37 0), (69, .d (.agg ([.row 2 1 (fun i' j' => (([.v (.bool false), lr 6 (tw k)])[i' * 2 + j']?).getD (.v undef)), .row 2 1 (fun i' j' => (([.v (.bool false), lr 6 (tw k)])[i' * 2 + j']?).getD (.v undef)), .v (.bool false), lr 6 (tw k)]))), (70, .d (.agg ([.row 2 1 (fun i' j' => (([.v (.bool false), lr 6 (tw k)])[i' * 2 + j']?).getD (.v undef)), .row 2 1 (fun i' j' => (([.v (.bool false), lr 6 (tw k)])[i' * 2 + j']?).getD (.v undef)), .v (.bool false), lr 6 (tw k), .v (.int .i64 2)]))), (71, .d (.one (.v (.int .i64 0))))]) (hp := [(8, .box 30 ([.row 2 1 (ael 6 (fX true k))] ++ [.row 2 1 (ael 6 (fY false k))] ++ zn 3 1)), (37, .is pp3 (.box 45 ([.v (.int .i64 3), .v (.int .i64 1), .row 5 (0 + 1) (pts 7 1 2 (snoc (fun _ _ => 0) 0 (ov ((B32 ^ k : Nat) : Int) (cfz 1 (fW k)))) (snoc (fun _ _ => 0) 0 (ov ((B32 ^ k : Nat) : Int) (cfz 1 (fW k)))) (snoc (fun _ => 0) 0 2))]))), (13, .box 30 ([.row 2 1 (fun i' j' => (([.v (.bool false), lr 6 (tw k)])[i' * 2 + j']?).getD (.v undef)), .row 2 1 (fun i' j' => (([.v (.bool false), lr 6 (tw k)])[i' * 2 + j']?).getD (.v undef)), .v (.bool false), lr 6 (tw k)]))]) rfl ⟨hs rfl, hs rfl, hs rfl, hs rfl, hs rfl, hs rfl, hs rfl, hs rfl, hs rfl, trivial⟩ ⟨ho rfl, ho rfl, ho rfl, trivial⟩ rfl) ?_
        refine mV hTT (.d (.one (.v (.bool true)))) rfl ?_
        refine mV hTT _ rfl ?_
        refine mV hTT _ rfl ?_
        refine mV hTT (.d (.agg ([.row 2 1 (ael 6 (fX true k))] ++ [.row 2 1 (ael 6 (fY false k))] ++ zn 3 1))) rfl ?_
        refine mV hTT (.d (.agg ([.row 2 1 (ael 6 (fX true k))] ++ [.row 2 1 (ael 6 (fY false k))] ++ zn 3 1 ++ [.v (.int .i64 2)]))) rfl ?_
        refine mCL (aTTurnArg (pp := pp3) (mp := 3) (md := 1) (K := 7) (n := 1) (m := 2) (N := (0 + 1)) (p := (snoc (fun _ _ => 0) 0 (ov ((B32 ^ k : Nat) : Int) (cfz 1 (fW k))))) (q := (snoc (fun _ _ => 0) 0 (ov ((B32 ^ k : Nat) : Int) (cfz 1 (fW k))))) (ids := (snoc (fun _ => 0) 0 2)) (x := (cx true k)) (y := (cy false k)) (D := 1) (id := 2) (isA (n := 1) (K := 6) (f := fX true k)) (isA (n := 1) (K := 6) (f := fY false k)) (IsZ.mono (L := 6) (isz 3 1) (by decide)) (by decide) (by omega) (by omega) cx_z cy_z (by omega) (by omega) (by decide) (by decide) (by decide) (by decide) (by omega) (k := 0) (by decide) (fun i hi => absurd hi (Nat.not_lt_zero _)) snoc_at hsm) [(0, 37)] [] [] [] rfl rfl ⟨⟨_, _, rfl, AV.le.rfl, rfl⟩, ⟨_, _, rfl, AV.le.rfl, rfl⟩, trivial⟩ ⟨⟨_, _, rfl, rfl, AO.le.rfl, rfl⟩, trivial⟩ trivial ⟨⟨_, 9, _, rfl, rfl, rfl⟩, trivial⟩ ⟨Or.inr ⟨_, _, rfl, by decide, fun _ _ h => by obtain ⟨rfl, rfl⟩ := h; exact ⟨_, rfl⟩⟩, trivial⟩ trivial ?_
        rintro _ _ ⟨rfl, rfl⟩
        refine AL.wk (wk (sl := [(6, .d (.one (.v (.bool false)))), (8, .ptr 8 0), (9, .ptr 37 0), (11, .d (.one (.v (.int .i64 1)))), (13, .ptr 13 0), (68, .ptr 37 0), (69, .d (.agg ([.row 2 1 (fun i' j' => (([.v (.bool false), lr 6 (tw k)])[i' * 2 + j']?).getD (.v undef)), .row 2 1 (fun i' j' => (([.v (.bool false), lr 6 (tw k)])[i' * 2 + j']?).getD (.v undef)), .v (.bool false), lr 6 (tw k)]))), (70, .d (.agg ([.row 2 1 (fun i' j' => (([.v (.bool false), lr 6 (tw k)])[i' * 2 + j']?).getD (.v undef)), .row 2 1 (fun i' j' => (([.v (.bool false), lr 6 (tw k)])[i' * 2 + j']?).getD (.v undef)), .v (.bool false), lr 6 (tw k), .v (.int .i64 2)]))), (71, .d (.one (.v (.int .i64 0)))), (72, .d (.one (.v (.bool true)))), (73, .d (.one (.v (.bool true)))), (74, .ptr 37 0), (75, .d (.agg ([.row 2 1 (ael 6 (fX true k))] ++ [.row 2 1 (ael 6 (fY false k))] ++ zn 3 1))), (76, .d (.agg ([.row 2 1 (ael 6 (fX true k))] ++ [.row 2 1 (ael 6 (fY false k))] ++ zn 3 1 ++ [.v (.int .i64 2)]))), (77, .d (.one (.v (.int .i64 1))))]) (hp := [(8, .box 30 ([.row 2 1 (ael 6 (fX true k))] ++ [.row 2 1 (ael 6 (fY false k))] ++ zn 3 1)), (37, .is pp3 (.box 45 ([.v (.int .i64 3), .v (.int .i64 1), .row 5 (0 + 1) (pts 7 1 2 (snoc (fun _ _ => 0) 0 (ov ((B32 ^ k : Nat) : Int) (cfz 1 (fW k)))) (snoc (fun _ _ => 0) 0 (ov ((B32 ^ k : Nat) : Int) (cfz 1 (fW k)))) (snoc (fun _ => 0) 0 2))]))), (13, .box 30 ([.row 2 1 (fun i' j' => (([.v (.bool false), lr 6 (tw k)])[i' * 2 + j']?).getD (.v undef)), .row 2 1 (fun i' j' => (([.v (.bool false), lr 6 (tw k)])[i' * 2 + j']?).getD (.v undef)), .v (.bool false), lr 6 (tw k)]))]) rfl ⟨hs rfl, hs rfl, hs rfl, hs rfl, hs rfl, hs rfl, hs rfl, hs rfl, hs rfl, hs rfl, hs rfl, hs rfl, hs rfl, hs rfl, hs rfl, trivial⟩ ⟨ho rfl, ho rfl, ho rfl, trivial⟩ rfl) ?_
        refine mV hTT _ rfl ?_
        refine mV hTT (.d (.one (.v (.bool true)))) rfl ?_
        refine mV hTT _ rfl ?_
        refine mV hTT _ rfl ?_
        refine mC0 (aWakes23) rfl rfl rfl ?_
        refine mV hTT _ rfl ?_
        refine mV hTT _ rfl ?_
        refine mNil ?_
        refine tN ?_
        refine cRet ?_
        exact rQ rfl (AV.le.rfl)
      · skip
        have hsm : smC 1 2 (ov 1 (cx true k)) (ov 1 (cy false k)) := (sm_cut true false k).2 (fun h => hk4 h.1)
        refine cReg ?_
        refine mV hTT _ rfl ?_
        refine mV hTT (.d (.one (.v (.bool false)))) (evb (decide_eq_false (by omega))) ?_
        refine mV hTT _ rfl ?_
        refine mGt rfl rfl ?_
        refine mGt rfl rfl ?_
        refine mU rfl rfl ?_
        refine mGt rfl rfl ?_
        refine mV hTT _ rfl ?_
        refine mNil ?_
        refine tN ?_
        refine cF rfl ?_
        refine cSkip ?_
        refine tN ?_
        refine cSeq ?_
        refine cSeq ?_
        refine AW.wk (wk (sl := [(6, .d (.one (.v (.bool false)))), (7, .d (.one (lr 6 (tw k)))), (8, .ptr 8 0), (9, .ptr 37 0), (11, .d (.one (.v (.int .i64 0))))]) (hp := [(8, .box 30 ([.row 2 1 (ael 6 (fX true k))] ++ [.row 2 1 (ael 6 (fY false k))] ++ zn 3 1)), (37, .is pp3 (.box 45 ([.v (.int .i64 3), .v (.int .i64 1), .v (.slice none 0 0)])))]) rfl ⟨hs rfl, hs rfl, hs rfl, hs rfl, hs rfl, trivial⟩ ⟨ho rfl, ho rfl, trivial⟩ rfl) ?_
        refine cReg ?_
        refine mV hTT _ rfl ?_
        refine mV hTT (.d (.agg ([.row 2 1 (ael 6 (fX true k))] ++ [.row 2 1 (ael 6 (fY false k))] ++ zn 3 1))) rfl ?_
        refine mV hTT (.d (.agg ([.row 2 1 (ael 6 (fX true k))] ++ [.row 2 1 (ael 6 (fY false k))] ++ zn 3 1 ++ [.v (.int .i64 1)]))) rfl ?_
        refine mCL (aTPut (pp := pp3) (mp := 3) (md := 1) (K := 7) (n := 1) (m := 2) (N := 0) (p := (fun _ _ => 0)) (q := (fun _ _ => 0)) (ids := (fun _ => 0)) (x := (cx true k)) (y := (cy false k)) (D := 1) (id := 1) (isA (n := 1) (K := 6) (f := fX true k)) (isA (n := 1) (K := 6) (f := fY false k)) (IsZ.mono (L := 6) (isz 3 1) (by decide)) (by decide) (by omega) (by omega) cx_z cy_z (by omega) (by omega) (by decide) (by decide) (by decide) (by decide) (by omega) (fun i hi => absurd hi (Nat.not_lt_zero _)) hsm deg_12 (by decide)) [(0, 37)] [] [] [] rfl rfl ⟨⟨_, _, rfl, AV.le.rfl, rfl⟩, ⟨_, _, rfl, AV.le.rfl, rfl⟩, trivial⟩ ⟨⟨_, _, rfl, rfl, leo_tab0, rfl⟩, trivial⟩ trivial ⟨⟨_, 9, _, rfl, rfl, rfl⟩, trivial⟩ ⟨Or.inr ⟨_, _, rfl, by decide, fun _ _ h => by obtain ⟨rfl, rfl⟩ := h; exact ⟨_, rfl⟩⟩, trivial⟩ trivial ?_
        rintro _ _ ⟨rfl, rfl⟩
        refine AL.wk (wk (sl := [(6, .d (.one (.v (.bool false)))), (7, .d (.one (lr 6 (tw k)))), (8, .ptr 8 0), (9, .ptr 37 0), (11, .d (.one (.v (.int .i64 0)))), (54, .ptr 37 0), (55, .d (.agg ([.row 2 1 (ael 6 (fX true k))] ++ [.row 2 1 (ael 6 (fY false k))] ++ zn 3 1))), (56, .d (.agg ([.row 2 1 (ael 6 (fX true k))] ++ [.row 2 1 (ael 6 (fY false k))] ++ zn 3 1 ++ [.v (.int .i64 1)]))), (57, .d (.one (.v (.int .i64 0))))]) (hp := [(8, .box 30 ([.row 2 1 (ael 6 (fX true k))] ++ [.row 2 1 (ael 6 (fY false k))] ++ zn 3 1)), (37, .is pp3 (.box 45 ([.v (.int .i64 3), .v (.int .i64 1), .row 5 (0 + 1) (pts 7 1 2 (snoc (fun _ _ => 0) 0 (ov 1 (cx true k))) (snoc (fun _ _ => 0) 0 (ov 1 (cy false k))) (snoc (fun _ => 0) 0 1))])))]) rfl ⟨hs rfl, hs rfl, hs rfl, hs rfl, hs rfl, hs rfl, hs rfl, hs rfl, hs rfl, trivial⟩ ⟨ho rfl, ho rfl, trivial⟩ rfl) ?_
        refine mV hTT _ rfl ?_
        refine mV hTT (.d (.one (.v (.bool false)))) rfl ?_
        refine mNil ?_
        refine tN ?_
        refine cF rfl ?_
        refine cSkip ?_
        refine tN ?_
        refine cSeq ?_
        refine AW.wk (wk (sl := [(6, .d (.one (.v (.bool false)))), (7, .d (.one (lr 6 (tw k)))), (8, .ptr 8 0), (9, .ptr 37 0), (11, .d (.one (.v (.int .i64 0))))]) (hp := [(8, .box 30 ([.row 2 1 (ael 6 (fX true k))] ++ [.row 2 1 (ael 6 (fY false k))] ++ zn 3 1)), (37, .is pp3 (.box 45 ([.v (.int .i64 3), .v (.int .i64 1), .row 5 (0 + 1) (pts 7 1 2 (snoc (fun _ _ => 0) 0 (ov 1 (cx true k))) (snoc (fun _ _ => 0) 0 (ov 1 (cy false k))) (snoc (fun _ => 0) 0 1))])))]) rfl ⟨hs rfl, hs rfl, hs rfl, hs rfl, hs rfl, trivial⟩ ⟨ho rfl, ho rfl, trivial⟩ rfl) ?_
        refine cReg ?_
        refine mV hTT _ rfl ?_
        refine mV hTT (.d (.agg ([.v (.bool false), lr 6 (tw k)]))) rfl ?_
        refine mN hTT (.box 28 ([.v (.bool false), .v (.slice none 0 0)])) rfl rfl rfl ?_
        refine mS hTT 12 (.box 28 ([.v (.bool false), lr 6 (tw k)])) rfl ?_
        refine mNil ?_
        refine tN ?_
        refine cSeq ?_
        refine cReg ?_
        refine mV hTT (.d (.agg ([.v (.bool false), lr 6 (tw k)]))) rfl ?_
        refine mB hTT (.d (.one (.row 2 1 (fun i' j' => (([.v (.bool false), lr 6 (tw k)])[i' * 2 + j']?).getD (.v undef))))) rfl ?_
        refine mV hTT (.d (.agg ([.v (.bool false), lr 6 (tw k)]))) rfl ?_
        refine mB hTT (.d (.one (.row 2 1 (fun i' j' => (([.v (.bool false), lr 6 (tw k)])[i' * 2 + j']?).getD (.v undef))))) rfl ?_
        refine mV hTT (.d (.agg ([.v (.bool false), lr 6 (tw k)]))) rfl ?_
        refine mV hTT (.d (.agg ([.row 2 1 (fun i' j' => (([.v (.bool false), lr 6 (tw k)])[i' * 2 + j']?).getD (.v undef)), .row 2 1 (fun i' j' => (([.v (.bool false), lr 6 (tw k)])[i' * 2 + j']?).getD (.v undef)), .v (.bool false), lr 6 (tw k)]))) rfl ?_
        refine mN hTT (.box 30 ([.v (.slice none 0 0), .v (.slice none 0 0), .v (.bool false), .v (.slice none 0 0)])) rfl rfl rfl ?_
        refine mS hTT 13 (.box 30 ([.row 2 1 (fun i' j' => (([.v (.bool false), lr 6 (tw k)])[i' * 2 + j']?).getD (.v undef)), .row 2 1 (fun i' j' => (([.v (.bool false), lr 6 (tw k)])[i' * 2 + j']?).getD (.v undef)), .v (.bool false), lr 6 (tw k)])) rfl ?_
        refine mNil ?_
        refine tN ?_
        refine cSeq ?_
        refine AW.wk (wk (sl := [(6, .d (.one (.v (.bool false)))), (8, .ptr 8 0), (9, .ptr 37 0), (11, .d (.one (.v (.int .i64 0)))), (13, .ptr 13 0)]) (hp := [(8, .box 30 ([.row 2 1 (ael 6 (fX true k))] ++ [.row 2 1 (ael 6 (fY false k))] ++ zn 3 1)), (37, .is pp3 (.box 45 ([.v (.int .i64 3), .v (.int .i64 1), .row 5 (0 + 1) (pts 7 1 2 (snoc (fun _ _ => 0) 0 (ov 1 (cx true k))) (snoc (fun _ _ => 0) 0 (ov 1 (cy false k))) (snoc (fun _ => 0) 0 1))]))), (13, .box 30 ([.row 2 1 (fun i' j' => (([.v (.bool false), lr 6 (tw k)])[i' * 2 + j']?).getD (.v undef)), .row 2 1 (fun i' j' => (([.v (.bool false), lr 6 (tw k)])[i' * 2 + j']?).getD (.v undef)), .v (.bool false), lr 6 (tw k)]))]) rfl ⟨hs rfl, hs rfl, hs rfl, hs rfl, hs rfl, trivial⟩ ⟨ho rfl, ho rfl, ho rfl, trivial⟩ rfl) ?_
        refine cReg ?_
        refine mV hTT _ rfl ?_
        refine mV hTT (.d (.agg ([.row 2 1 (fun i' j' => (([.v (.bool false), lr 6 (tw k)])[i' * 2 + j']?).getD (.v undef)), .row 2 1 (fun i' j' => (([.v (.bool false), lr 6 (tw k)])[i' * 2 + j']?).getD (.v undef)), .v (.bool false), lr 6 (tw k)]))) rfl ?_
        refine mV hTT (.d (.agg ([.row 2 1 (fun i' j' => (([.v (.bool false), lr 6 (tw k)])[i' * 2 + j']?).getD (.v undef)), .row 2 1 (fun i' j' => (([.v (.bool false), lr 6 (tw k)])[i' * 2 + j']?).getD (.v undef)), .v (.bool false), lr 6 (tw k), .v (.int .i64 2)]))) rfl ?_
        refine mCL (aTPut (pp := pp3) (mp := 3) (md := 1) (K := 7) (n := 1) (m := 2) (N := (0 + 1)) (p := (snoc (fun _ _ => 0) 0 (ov 1 (cx true k)))) (q := (snoc (fun _ _ => 0) 0 (ov 1 (cy false k)))) (ids := (snoc (fun _ => 0) 0 1)) (x := (cfz 1 (fW k))) (y := (cfz 1 (fW k))) (D := ((B32 ^ k : Nat) : Int)) (id := 2) isW isW isZW (W_ne k) (by omega) (by omega) cfz_z (fun i hi => cfz_z i (by omega)) (by omega) (by omega) (by decide) (by decide) (by decide) (by decide) (by omega) (fun i hi => by obtain rfl : i = 0 := (by omega); rw [snoc_at]; decide) (sm_W k) deg_12 (by decide)) [(0, 37)] [] [] [] rfl rfl ⟨⟨_, _, rfl, AV.le.rfl, rfl⟩, ⟨_, _, rfl, AV.le.rfl, rfl⟩, trivial⟩ ⟨⟨_, _, rfl, rfl, AO.le.rfl, rfl⟩, trivial⟩ trivial ⟨⟨_, 9, _, rfl, rfl, rfl⟩, trivial⟩ ⟨Or.inr ⟨_, _, rfl, by decide, fun _ _ h => by obtain ⟨rfl, rfl⟩ := h; exact ⟨_, rfl⟩⟩, trivial⟩ trivial ?_
        rintro _ _ ⟨rfl, rfl⟩
        refine AL.wk (wk (sl := [(6, .d (.one (.v (.bool false)))), (8, .ptr 8 0), (9, .ptr 37 0), (11, .d (.one (.v (.int .i64 0)))), (13, .ptr 13 0), (68, .ptr 37 0), (69, .d (.agg ([.row 2 1 (fun i' j' => (([.v (.bool false), lr 6 (tw k)])[i' * 2 + j']?).getD (.v undef)), .row 2 1 (fun i' j' => (([.v (.bool false), lr 6 (tw k)])[i' * 2 + j']?).getD (.v undef)), .v (.bool false), lr 6 (tw k)]))), (70, .d (.agg ([.row 2 1 (fun i' j' => (([.v (.bool false), lr 6 (tw k)])[i' * 2 + j']?).getD (.v undef)), .row 2 1 (fun i' j' => (([.v (.bool false), lr 6 (tw k)])[i' * 2 + j']?).getD (.v undef)), .v (.bool false), lr 6 (tw k), .v (.int .i64 2)]))), (71, .d (.one (.v (.int .i64 0))))]) (hp := [(8, .box 30 ([.row 2 1 (ael 6 (fX true k))] ++ [.row 2 1 (ael 6 (fY false k))] ++ zn 3 1)), (37, .is pp3 (.box 45 ([.v (.int .i64 3), .v (.int .i64 1), .row 5 ((0 + 1) + 1) (pts 7 1 2 (snoc (snoc (fun _ _ => 0) 0 (ov 1 (cx true k))) (0 + 1) (ov ((B32 ^ k : Nat) : Int) (cfz 1 (fW k)))) (snoc (snoc (fun _ _ => 0) 0 (ov 1 (cy false k))) (0 + 1) (ov ((B32 ^ k : Nat) : Int) (cfz 1 (fW k)))) (snoc (snoc (fun _ => 0) 0 1) (0 + 1) 2))]))), (13, .box 30 ([.row 2 1 (fun i' j' => (([.v (.bool false), lr 6 (tw k)])[i' * 2 + j']?).getD (.v undef)), .row 2 1 (fun i' j' => (([.v (.bool false), lr 6 (tw k)])[i' * 2 + j']?).getD (.v undef)), .v (.bool false), lr 6 (tw k)]))]) rfl ⟨hs rfl, hs rfl, hs rfl, hs rfl, hs rfl, hs rfl, hs rfl, hs rfl, hs rfl, trivial⟩ ⟨ho rfl, ho rfl, ho rfl, trivial⟩ rfl) ?_
        refine mV hTT (.d (.one (.v (.bool true)))) rfl ?_
        refine mV hTT _ rfl ?_
        refine mV hTT _ rfl ?_
        refine mV hTT (.d (.agg ([.row 2 1 (ael 6 (fX true k))] ++ [.row 2 1 (ael 6 (fY false k))] ++ zn 3 1))) rfl ?_
        refine mV hTT (.d (.agg ([.row 2 1 (ael 6 (fX true k))] ++ [.row 2 1 (ael 6 (fY false k))] ++ zn 3 1 ++ [.v (.int .i64 2)]))) rfl ?_
        refine mCL (aTTurn (pp := pp3) (mp := 3) (md := 1) (K := 7) (n := 1) (m := 2) (N := ((0 + 1) + 1)) (p := (snoc (snoc (fun _ _ => 0) 0 (ov 1 (cx true k))) (0 + 1) (ov ((B32 ^ k : Nat) : Int) (cfz 1 (fW k))))) (q := (snoc (snoc (fun _ _ => 0) 0 (ov 1 (cy false k))) (0 + 1) (ov ((B32 ^ k : Nat) : Int) (cfz 1 (fW k))))) (ids := (snoc (snoc (fun _ => 0) 0 1) (0 + 1) 2)) (x := (cx true k)) (y := (cy false k)) (D := 1) (id := 2) (isA (n := 1) (K := 6) (f := fX true k)) (isA (n := 1) (K := 6) (f := fY false k)) (IsZ.mono (L := 6) (isz 3 1) (by decide)) (by decide) (by omega) (by omega) cx_z cy_z (by omega) (by omega) (by decide) (by decide) (by decide) (by decide) (by omega) (k := (0 + 1)) (by decide) (fun i hi => by obtain rfl : i = 0 := (by omega); rw [snoc_ne (by omega), snoc_at]; decide) snoc_at hsm deg_12) [(0, 37)] [] [] [] rfl rfl ⟨⟨_, _, rfl, AV.le.rfl, rfl⟩, ⟨_, _, rfl, AV.le.rfl, rfl⟩, trivial⟩ ⟨⟨_, _, rfl, rfl, AO.le.rfl, rfl⟩, trivial⟩ trivial ⟨⟨_, 9, _, rfl, rfl, rfl⟩, trivial⟩ ⟨Or.inr ⟨_, _, rfl, by decide, fun _ _ h => by obtain ⟨rfl, cc, rfl⟩ := h; exact ⟨_, rfl⟩⟩, trivial⟩ trivial ?_
        rintro _ _ ⟨rfl, cc, rfl⟩
        refine AL.wk (wk (sl := [(6, .d (.one (.v (.bool false)))), (8, .ptr 8 0), (9, .ptr 37 0), (11, .d (.one (.v (.int .i64 0)))), (13, .ptr 13 0), (68, .ptr 37 0), (69, .d (.agg ([.row 2 1 (fun i' j' => (([.v (.bool false), lr 6 (tw k)])[i' * 2 + j']?).getD (.v undef)), .row 2 1 (fun i' j' => (([.v (.bool false), lr 6 (tw k)])[i' * 2 + j']?).getD (.v undef)), .v (.bool false), lr 6 (tw k)]))), (70, .d (.agg ([.row 2 1 (fun i' j' => (([.v (.bool false), lr 6 (tw k)])[i' * 2 + j']?).getD (.v undef)), .row 2 1 (fun i' j' => (([.v (.bool false), lr 6 (tw k)])[i' * 2 + j']?).getD (.v undef)), .v (.bool false), lr 6 (tw k), .v (.int .i64 2)]))), (71, .d (.one (.v (.int .i64 0)))), (72, .d (.one (.v (.bool true)))), (73, .d (.one (.v (.bool true)))), (74, .ptr 37 0), (75, .d (.agg ([.row 2 1 (ael 6 (fX true k))] ++ [.row 2 1 (ael 6 (fY false k))] ++ zn 3 1))), (76, .d (.agg ([.row 2 1 (ael 6 (fX true k))] ++ [.row 2 1 (ael 6 (fY false k))] ++ zn 3 1 ++ [.v (.int .i64 2)]))), (77, .d (.one (.v (.int .i64 0))))]) (hp := [(8, .box 30 ([.row 2 1 (ael 6 (fX true k))] ++ [.row 2 1 (ael 6 (fY false k))] ++ zn 3 1)), (37, .is pp3 (.box 45 ([.v (.int .i64 3), .v (.int .i64 1), cc]))), (13, .box 30 ([.row 2 1 (fun i' j' => (([.v (.bool false), lr 6 (tw k)])[i' * 2 + j']?).getD (.v undef)), .row 2 1 (fun i' j' => (([.v (.bool false), lr 6 (tw k)])[i' * 2 + j']?).getD (.v undef)), .v (.bool false), lr 6 (tw k)]))]) rfl ⟨hs rfl, hs rfl, hs rfl, hs rfl, hs rfl, hs rfl, hs rfl, hs rfl, hs rfl, hs rfl, hs rfl, hs rfl, hs rfl, hs rfl, hs rfl, trivial⟩ ⟨ho rfl, ho rfl, ho rfl, trivial⟩ rfl) ?_
        refine mV hTT _ rfl ?_
        refine mV hTT (.d (.one (.v (.bool true)))) rfl ?_
        refine mV hTT _ rfl ?_
        refine mV hTT _ rfl ?_
        refine mC0 (aWakes23) rfl rfl rfl ?_
        refine mV hTT _ rfl ?_
        refine mV hTT _ rfl ?_
        refine mNil ?_
        refine tN ?_
        refine cRet ?_
        exact rQ rfl (AV.le.rfl)
    · skip
      refine cReg ?_
      refine mV hTT _ rfl ?_
      refine mNil ?_
      refine tN ?_
      refine cT rfl ?_
      refine cReg ?_
      refine mV hTT _ rfl ?_
      refine mV hTT (.d (.agg ([.v (.bool false), lr 6 (tw k)]))) rfl ?_
      refine mB hTT (.d (.one (.row 2 1 (fun i' j' => (([.v (.bool false), lr 6 (tw k)])[i' * 2 + j']?).getD (.v undef))))) rfl ?_
      refine mV hTT (.ptr 8 0) rfl ?_
      refine mS hTT 8 (.box 30 ([.row 2 1 (fun i' j' => (([.v (.bool false), lr 6 (tw k)])[i' * 2 + j']?).getD (.v undef))] ++ [.row 2 1 (zel 3 (oc 1))] ++ zn 3 1)) rfl ?_
      refine mNil ?_
      refine tN ?_
      refine cSeq ?_
      refine cSeq ?_
      refine cReg ?_
      refine mV hTT _ rfl ?_
      refine mNil ?_
      refine tN ?_
      refine cT rfl ?_
      refine cReg ?_
      refine mB hTT (.d (.one (.row 1 1 (fun i' j' => (([.v (.int .u32 5)])[i' * 1 + j']?).getD (.v undef))))) rfl ?_
      refine mView 30 (.d (.one (lr 6 ([5])))) rfl (le_five) ?_
      refine mV hTT (.d (.agg ([.v (.bool false), lr 6 ([5])]))) rfl ?_
      refine mV hTT _ rfl ?_
      refine mV hTT (.d (.agg ([.v (.bool true), lr 6 (tw k)]))) rfl ?_
      refine mB hTT (.d (.one (.row 2 2 (fun i' j' => (([.v (.bool false), lr 6 ([5]), .v (.bool true), lr 6 (tw k)])[i' * 2 + j']?).getD (.v undef))))) rfl ?_
      refine mV hTT (.ptr 8 1) rfl ?_
      refine mS hTT 8 (.box 30 ([.row 2 1 (fun i' j' => (([.v (.bool false), lr 6 (tw k)])[i' * 2 + j']?).getD (.v undef))] ++ [.row 2 2 (fun i' j' => (([.v (.bool false), lr 6 ([5]), .v (.bool true), lr 6 (tw k)])[i' * 2 + j']?).getD (.v undef))] ++ zn 3 1)) rfl ?_
      refine mNil ?_
      refine tN ?_
      refine cSeq ?_
      refine AW.wk (wk (sl := [(0, .d (.one (.v (.int .i64 ((k + 1 : Nat) : Int))))), (1, .d (.one (.v (.bool true)))), (2, .d (.one (.v (.bool true)))), (6, .d (.one (.v (.bool false)))), (14, .d (.one (.v (.int .i64 n)))), (15, .d (.one (.v (.int .i64 (n % (4 : Int)))))), (16, .d (.one (.v (.int .i64 ((k + 1 : Nat) : Int))))), (17, .d (.one (.v (.int .i64 ((k + 1 : Nat) : Int))))), (18, .d (.one (.row 1 (k + 1) (fun p' q' => if p' = k then (([.v (.int .u32 1)])[q']?).getD (.v undef) else (fun _ j => .v ((([Value.int .u32 0] : List Value)[j]?).getD undef)) p' q')))), (7, .d (.one (lr 6 (tw k)))), (19, .d (.one (.row 1 (k + 1) (fun p' q' => if p' = k then (([.v (.int .u32 1)])[q']?).getD (.v undef) else (fun _ j => .v ((([Value.int .u32 0] : List Value)[j]?).getD undef)) p' q')))), (20, .d (.one (.v (.int .i64 ((k + 1 : Nat) : Int))))), (21, .d (.one (.v (.int .i64 ((k : Nat) : Int))))), (22, .dead), (23, .d (.agg ([.row 2 1 (zel 3 (oc 1))] ++ [.row 2 1 (zel 3 (oc 1))] ++ zn 3 1))), (8, .ptr 8 0), (24, .d (.one (.v (.bool true)))), (25, .d (.one (lr 6 (tw k)))), (26, .d (.agg ([.v (.bool false), lr 6 (tw k)]))), (27, .d (.one (.row 2 1 (fun i' j' => (([.v (.bool false), lr 6 (tw k)])[i' * 2 + j']?).getD (.v undef))))), (28, .ptr 8 0), (29, .d (.one (.v (.bool true)))), (30, .d (.one (lr 6 ([5])))), (31, .d (.agg ([.v (.bool false), lr 6 ([5])]))), (32, .d (.one (lr 6 (tw k)))), (33, .d (.agg ([.v (.bool true), lr 6 (tw k)]))), (34, .d (.one (.row 2 2 (fun i' j' => (([.v (.bool false), lr 6 ([5]), .v (.bool true), lr 6 (tw k)])[i' * 2 + j']?).getD (.v undef))))), (35, .ptr 8 1)]) (hp := [(8, .box 30 ([.row 2 1 (ael 6 (fX true k))] ++ [.row 2 2 (ael 6 (fY true k))] ++ zn 3 1))]) rfl ⟨hs rfl, hs rfl, hs rfl, hs rfl, hs rfl, hs rfl, hs rfl, hs rfl, hs rfl, hs rfl, hs rfl, hs rfl, hs rfl, hs rfl, hs rfl, hs rfl, hs rfl, hs rfl, hs rfl, hs rfl, hs rfl, hs rfl, hs rfl, hs rfl, hs rfl, hs rfl, hs rfl, hs rfl, trivial⟩ ⟨ho' rfl (leo_c4 (t := 30) (le_x1 (k := k)) (le_y1 (k := k))), trivial⟩ rfl) ?_
      refine AW.wk (wk (sl := [(0, .d (.one (.v (.int .i64 ((k + 1 : Nat) : Int))))), (1, .d (.one (.v (.bool true)))), (2, .d (.one (.v (.bool true)))), (6, .d (.one (.v (.bool false)))), (7, .d (.one (lr 6 (tw k)))), (8, .ptr 8 0)]) (hp := [(8, .box 30 ([.row 2 1 (ael 6 (fX true k))] ++ [.row 2 2 (ael 6 (fY true k))] ++ zn 3 1))]) rfl ⟨hs rfl, hs rfl, hs rfl, hs rfl, hs rfl, hs rfl, trivial⟩ ⟨ho rfl, trivial⟩ rfl) ?_
      refine cReg ?_
      refine mCL (aTNew (n := 3) (d := 1) (by decide) (by decide) (by decide) (by decide)) [] [(23, 37)] [] [] rfl rfl ⟨⟨_, _, rfl, AV.le.rfl, rfl⟩, ⟨_, _, rfl, AV.le.rfl, rfl⟩, trivial⟩ trivial ⟨⟨rfl, rfl⟩, trivial⟩ trivial trivial trivial ?_
      rintro _ _ ⟨rfl, rfl⟩
      refine AL.wk (wk (sl := [(0, .d (.one (.v (.int .i64 ((k + 1 : Nat) : Int))))), (1, .d (.one (.v (.bool true)))), (2, .d (.one (.v (.bool true)))), (6, .d (.one (.v (.bool false)))), (7, .d (.one (lr 6 (tw k)))), (8, .ptr 8 0), (37, .ptup 37 [.one (.v (.int .i64 0))])]) (hp := [(8, .box 30 ([.row 2 1 (ael 6 (fX true k))] ++ [.row 2 2 (ael 6 (fY true k))] ++ zn 3 1)), (37, .box 45 ([.v (.int .i64 3), .v (.int .i64 1), .v (.slice none 0 0)]))]) rfl ⟨hs rfl, hs rfl, hs rfl, hs rfl, hs rfl, hs rfl, hs rfl, trivial⟩ ⟨ho rfl, ho rfl, trivial⟩ rfl) ?_
      refine mNm 37 rfl (fun pp4 => ?_)
      refine mV hTT _ rfl ?_
      refine mV hTT _ rfl ?_
      refine mV hTT _ rfl ?_
      refine mV hTT _ rfl ?_
      refine mV hTT _ rfl ?_
      refine mNil ?_
      refine tN ?_
      refine cSeq ?_
      refine cSeq ?_
      refine cReg ?_
      refine mV hTT _ rfl ?_
      refine mV hTT (.d (.one (.v (.bool false)))) rfl ?_
      refine mV hTT _ rfl ?_
      refine mV hTT _ rfl ?_
      refine mX (.d (.one (.v (.bool false)))) (xPn false rfl (Or.inl ⟨rfl, rfl⟩) Try.underlying32 rfl rfl) ?_
      refine mV hTT _ rfl ?_
      refine mNil ?_
      refine tN ?_
      refine cF rfl ?_
      refine cSkip ?_
      refine tN ?_
      refine cSeq ?_
      refine cReg ?_
      refine mV hTT _ rfl ?_
      refine mNil ?_
      refine tN ?_
      refine cSeq ?_
      refine cSeq ?_
      refine AW.wk (wk (sl := [(0, .d (.one (.v (.int .i64 ((k + 1 : Nat) : Int))))), (1, .d (.one (.v (.bool true)))), (2, .d (.one (.v (.bool true)))), (6, .d (.one (.v (.bool false)))), (7, .d (.one (lr 6 (tw k)))), (8, .ptr 8 0), (9, .ptr 37 0), (11, .d (.one (.v (.int .i64 0))))]) (hp := [(8, .box 30 ([.row 2 1 (ael 6 (fX true k))] ++ [.row 2 2 (ael 6 (fY true k))] ++ zn 3 1)), (37, .is pp4 (.box 45 ([.v (.int .i64 3), .v (.int .i64 1), .v (.slice none 0 0)])))]) rfl ⟨hs rfl, hs rfl, hs rfl, hs rfl, hs rfl, hs rfl, hs rfl, hs rfl, trivial⟩ ⟨ho rfl, ho rfl, trivial⟩ rfl) ?_
      by_cases hk4 : 4 ≤ k
      · skip
        have hsm : ¬ smC 1 2 (ov 1 (cx true k)) (ov 1 (cy true k)) := fun h => (sm_cut true true k).1 h ⟨hk4, Or.inl rfl⟩
        refine cReg ?_
        refine mV hTT _ rfl ?_
        refine mV hTT (.d (.one (.v (.bool true)))) (evb (decide_eq_true (by omega))) ?_
        refine mV hTT _ rfl ?_
        refine mV hTT _ rfl ?_
        refine mV hTT _ rfl ?_
        refine mGt rfl rfl ?_
        refine mV hTT _ rfl ?_
        refine mV hTT _ rfl ?_
        refine mNil ?_
        refine tN ?_
        refine cT rfl ?_
        refine cReg ?_
        refine mV hTT _ rfl ?_
        refine mNil ?_
        refine tN ?_
        refine cSeq ?_
        refine cSeq ?_
        refine AW.wk (wk (sl := [(6, .d (.one (.v (.bool false)))), (7, .d (.one (lr 6 (tw k)))), (8, .ptr 8 0), (9, .ptr 37 0), (11, .d (.one (.v (.int .i64 1))))]) (hp := [(8, .box 30 ([.row 2 1 (ael 6 (fX true k))] ++ [.row 2 2 (ael 6 (fY true k))] ++ zn 3 1)), (37, .is pp4 (.box 45 ([.v (.int .i64 3), .v (.int .i64 1), .v (.slice none 0 0)])))]) rfl ⟨hs rfl, hs rfl, hs rfl, hs rfl, hs rfl, trivial⟩ ⟨ho rfl, ho rfl, trivial⟩ rfl) ?_
        refine cReg ?_
        refine mV hTT _ rfl ?_
        refine mV hTT (.d (.agg ([.row 2 1 (ael 6 (fX true k))] ++ [.row 2 2 (ael 6 (fY true k))] ++ zn 3 1))) rfl ?_
        refine mV hTT (.d (.agg ([.row 2 1 (ael 6 (fX true k))] ++ [.row 2 2 (ael 6 (fY true k))] ++ zn 3 1 ++ [.v (.int .i64 1)]))) rfl ?_
        refine mCL (aTPutArg (pp := pp4) (mp := 3) (md := 1) (K := 7) (n := 1) (m := 2) (N := 0) (p := (fun _ _ => 0)) (q := (fun _ _ => 0)) (ids := (fun _ => 0)) (x := (cx true k)) (y := (cy true k)) (D := 1) (id := 1) (isA (n := 1) (K := 6) (f := fX true k)) (isA (n := 2) (K := 6) (f := fY true k)) (IsZ.mono (L := 6) (isz 3 1) (by decide)) (by decide) (by omega) (by omega) cx_z cy_z (by omega) (by omega) (by decide) (by decide) (by decide) (by decide) (by omega) (fun i hi => absurd hi (Nat.not_lt_zero _)) hsm ) [(0, 37)] [] [] [] rfl rfl ⟨⟨_, _, rfl, AV.le.rfl, rfl⟩, ⟨_, _, rfl, AV.le.rfl, rfl⟩, trivial⟩ ⟨⟨_, _, rfl, rfl, leo_tab0, rfl⟩, trivial⟩ trivial ⟨⟨_, 9, _, rfl, rfl, rfl⟩, trivial⟩ ⟨Or.inr ⟨_, _, rfl, by decide, fun _ _ h => by obtain ⟨rfl, rfl⟩ := h; exact ⟨_, rfl⟩⟩, trivial⟩ trivial ?_
        rintro _ _ ⟨rfl, rfl⟩
        refine AL.wk (wk (sl := [(6, .d (.one (.v (.bool false)))), (7, .d (.one (lr 6 (tw k)))), (8, .ptr 8 0), (9, .ptr 37 0), (11, .d (.one (.v (.int .i64 1)))), (54, .ptr 37 0), (55, .d (.agg ([.row 2 1 (ael 6 (fX true k))] ++ [.row 2 2 (ael 6 (fY true k))] ++ zn 3 1))), (56, .d (.agg ([.row 2 1 (ael 6 (fX true k))] ++ [.row 2 2 (ael 6 (fY true k))] ++ zn 3 1 ++ [.v (.int .i64 1)]))), (57, .d (.one (.v (.int .i64 1))))]) (hp := [(8, .box 30 ([.row 2 1 (ael 6 (fX true k))] ++ [.row 2 2 (ael 6 (fY true k))] ++ zn 3 1)), (37, .is pp4 (.box 45 ([.v (.int .i64 3), .v (.int .i64 1), .row 5 0 (pts 7 1 2 (fun _ _ => 0) (fun _ _ => 0) (fun _ => 0))])))]) rfl ⟨hs rfl, hs rfl, hs rfl, hs rfl, hs rfl, hs rfl, hs rfl, hs rfl, hs rfl, trivial⟩ ⟨ho rfl, ho rfl, trivial⟩ rfl) ?_
        refine mV hTT _ rfl ?_
        refine mV hTT (.d (.one (.v (.bool false)))) rfl ?_
        refine mNil ?_
        refine tN ?_
        refine cF rfl ?_
        refine cSkip ?_
        refine tN ?_
        refine cSeq ?_
        refine AW.wk (wk (sl := [(6, .d (.one (.v (.bool false)))), (7, .d (.one (lr 6 (tw k)))), (8, .ptr 8 0), (9, .ptr 37 0), (11, .d (.one (.v (.int .i64 1))))]) (hp := [(8, .box 30 ([.row 2 1 (ael 6 (fX true k))] ++ [.row 2 2 (ael 6 (fY true k))] ++ zn 3 1)), (37, .is pp4 (.box 45 ([.v (.int .i64 3), .v (.int .i64 1), .row 5 0 (pts 7 1 2 (fun _ _ => 0) (fun _ _ => 0) (fun _ => 0))])))]) rfl ⟨hs rfl, hs rfl, hs rfl, hs rfl, hs rfl, trivial⟩ ⟨ho rfl, ho rfl, trivial⟩ rfl) ?_
        refine cReg ?_
        refine mV hTT _ rfl ?_
        refine mV hTT (.d (.agg ([.v (.bool false), lr 6 (tw k)]))) rfl ?_
        refine mN hTT (.box 28 ([.v (.bool false), .v (.slice none 0 0)])) rfl rfl rfl ?_
        refine mS hTT 12 (.box 28 ([.v (.bool false), lr 6 (tw k)])) rfl ?_
        refine mNil ?_
        refine tN ?_
        refine cSeq ?_
        refine cReg ?_
        refine mV hTT (.d (.agg ([.v (.bool false), lr 6 (tw k)]))) rfl ?_
        refine mB hTT (.d (.one (.row 2 1 (fun i' j' => (([.v (.bool false), lr 6 (tw k)])[i' * 2 + j']?).getD (.v undef))))) rfl ?_
        refine mV hTT (.d (.agg ([.v (.bool false), lr 6 (tw k)]))) rfl ?_
        refine mB hTT (.d (.one (.row 2 1 (fun i' j' => (([.v (.bool false), lr 6 (tw k)])[i' * 2 + j']?).getD (.v undef))))) rfl ?_
        refine mV hTT (.d (.agg ([.v (.bool false), lr 6 (tw k)]))) rfl ?_
        refine mV hTT (.d (.agg ([.row 2 1 (fun i' j' => (([.v (.bool false), lr 6 (tw k)])[i' * 2 + j']?).getD (.v undef)), .row 2 1 (fun i' j' => (([.v (.bool false), lr 6 (tw k)])[i' * 2 + j']?).getD (.v undef)), .v (.bool false), lr 6 (tw k)]))) rfl ?_
        refine mN hTT (.box 30 ([.v (.slice none 0 0), .v (.slice none 0 0), .v (.bool false), .v (.slice none 0 0)])) rfl rfl rfl ?_
        refine mS hTT 13 (.box 30 ([.row 2 1 (fun i' j' => (([.v (.bool false), lr 6 (tw k)])[i' * 2 + j']?).getD (.v undef)), .row 2 1 (fun i' j' => (([.v (.bool false), lr 6 (tw k)])[i' * 2 + j']?).getD (.v undef)), .v (.bool false), lr 6 (tw k)])) rfl ?_
        refine mNil ?_
        refine tN ?_
        refine cSeq ?_
        refine AW.wk (wk (sl := [(6, .d (.one (.v (.bool false)))), (8, .ptr 8 0), (9, .ptr 37 0), (11, .d (.one (.v (.int .i64 1)))), (13, .ptr 13 0)]) (hp := [(8, .box 30 ([.row 2 1 (ael 6 (fX true k))] ++ [.row 2 2 (ael 6 (fY true k))] ++ zn 3 1)), (37, .is pp4 (.box 45 ([.v (.int .i64 3), .v (.int .i64 1), .row 5 0 (pts 7 1 2 (fun _ _ => 0) (fun _ _ => 0) (fun _ => 0))]))), (13, .box 30 ([.row 2 1 (fun i' j' => (([.v (.bool false), lr 6 (tw k)])[i' * 2 + j']?).getD (.v undef)), .row 2 1 (fun i' j' => (([.v (.bool false), lr 6 (tw k)])[i' * 2 + j']?).getD (.v undef)), .v (.bool false), lr 6 (tw k)]))]) rfl ⟨hs rfl, hs rfl, hs rfl, hs rfl, hs rfl, trivial⟩ ⟨ho rfl, ho rfl, ho rfl, trivial⟩ rfl) ?_
        refine cReg ?_
        refine mV hTT _ rfl ?_
        refine mV hTT (.d (.agg ([.row 2 1 (fun i' j' => (([.v (.bool false), lr 6 (tw k)])[i' * 2 + j']?).getD (.v undef)), .row 2 1 (fun i' j' => (([.v (.bool false), lr 6 (tw k)])[i' * 2 + j']?).getD (.v undef)), .v (.bool false), lr 6 (tw k)]))) rfl ?_
        refine mV hTT (.d (.agg ([.row 2 1 (fun i' j' => (([.v (.bool false), lr 6 (tw k)])[i' * 2 + j']?).getD (.v undef)), .row 2 1 (fun i' j' => (([.v (.bool false), lr 6 (tw k)])[i' * 2 + j']?).getD (.v undef)), .v (.bool false), lr 6 (tw k), .v (.int .i64 2)]))) rfl ?_
        refine mCL (aTPut (pp := pp4) (mp := 3) (md := 1) (K := 7) (n := 1) (m := 2) (N := 0) (p := (fun _ _ => 0)) (q := (fun _ _ => 0)) (ids := (fun _ => 0)) (x := (cfz 1 (fW k))) (y := (cfz 1 (fW k))) (D := ((B32 ^ k : Nat) : Int)) (id := 2) isW isW isZW (W_ne k) (by omega) (by omega) cfz_z (fun i hi => cfz_z i (by omega)) (by omega) (by omega) (by decide) (by decide) (by decide) (by decide) (by omega) (fun i hi => absurd hi (Nat.not_lt_zero _)) (sm_W k) deg_12 (by decide)) [(0, 37)] [] [] [] rfl rfl ⟨⟨_, _, rfl, AV.le.rfl, rfl⟩, ⟨_, _, rfl, AV.le.rfl, rfl⟩, trivial⟩ ⟨⟨_, _, rfl, rfl, AO.le.rfl, rfl⟩, trivial⟩ trivial ⟨⟨_, 9, _, rfl, rfl, rfl⟩, trivial⟩ ⟨Or.inr ⟨_, _, rfl, by decide, fun _ _ h => by obtain ⟨rfl, rfl⟩ := h; exact ⟨_, rfl⟩⟩, trivial⟩ trivial ?_
        rintro _ _ ⟨rfl, rfl⟩
        refine AL.wk (wk (sl := [(6, .d (.one (.v (.bool false)))), (8, .ptr 8 0), (9, .ptr 37 0), (11, .d (.one (.v (.int .i64 1)))), (13, .ptr 13 0), (68, .ptr 37 0), (69, .d (.agg ([.row 2 1 (fun i' j' => (([.v (.bool false), lr 6 (tw k)])[i' * 2 + j']?).getD (.v undef)), .row 2 1 (fun i' j' => (([.v (.bool false), lr 6 (tw k)])[i' * 2 + j']?).getD (.v undef)), .v (.bool false), lr 6 (tw k)]))), (70, .d (.agg ([.row 2 1 (fun i' j' => (([.v (.bool false), lr 6 (tw k)])[i' * 2 + j']?).getD (.v undef)), .row 2 1 (fun i' j' => (([.v (.bool false), lr 6 (tw k)])[i' * 2 + j']?).getD (.v undef)), .v (.bool false), lr 6 (tw k), .v (.int .i64 2)]))), (71, .d (.one (.v (.int .i64 0))))]) (hp := [(8, .box 30 ([.row 2 1 (ael 6 (fX true k))] ++ [.row 2 2 (ael 6 (fY true k))] ++ zn 3 1)), (37, .is pp4 (.box 45 ([.v (.int .i64 3), .v (.int .i64 1), .row 5 (0 + 1) (pts 7 1 2 (snoc (fun _ _ => 0) 0 (ov ((B32 ^ k : Nat) : Int) (cfz 1 (fW k)))) (snoc (fun _ _ => 0) 0 (ov ((B32 ^ k : Nat) : Int) (cfz 1 (fW k)))) (snoc (fun _ => 0) 0 2))]))), (13, .box 30 ([.row 2 1 (fun i' j' => (([.v (.bool false), lr 6 (tw k)])[i' * 2 + j']?).getD (.v undef)), .row 2 1 (fun i' j' => (([.v (.bool false), lr 6 (tw k)])[i' * 2 + j']?).getD (.v undef)), .v (.bool false), lr 6 (tw k)]))]) rfl ⟨hs rfl, hs rfl, hs rfl, hs rfl, hs rfl, hs rfl, hs rfl, hs rfl, hs rfl, trivial⟩ ⟨ho rfl, ho rfl, ho rfl, trivial⟩ rfl) ?_
        refine mV hTT (.d (.one (.v (.bool true)))) rfl ?_
        refine mV hTT _ rfl ?_
        refine mV hTT _ rfl ?_
        refine mV hTT (.d (.agg ([.row 2 1 (ael 6 (fX true k))] ++ [.row 2 2 (ael 6 (fY true k))] ++ zn 3 1))) rfl ?_
        refine mV hTT (.d (.agg ([.row 2 1 (ael 6 (fX true k))] ++ [.row 2 2 (ael 6 (fY true k))] ++ zn 3 1 ++ [.v (.int .i64 2)]))) rfl ?_
        refine mCL (aTTurnArg (pp := pp4) (mp := 3) (md := 1) (K := 7) (n := 1) (m := 2) (N := (0 + 1)) (p := (snoc (fun _ _ => 0) 0 (ov ((B32 ^ k : Nat) : Int) (cfz 1 (fW k))))) (q := (snoc (fun _ _ => 0) 0 (ov ((B32 ^ k : Nat) : Int) (cfz 1 (fW k))))) (ids := (snoc (fun _ => 0) 0 2)) (x := (cx true k)) (y := (cy true k)) (D := 1) (id := 2) (isA (n := 1) (K := 6) (f := fX true k)) (isA (n := 2) (K := 6) (f := fY true k)) (IsZ.mono (L := 6) (isz 3 1) (by decide)) (by decide) (by omega) (by omega) cx_z cy_z (by omega) (by omega) (by decide) (by decide) (by decide) (by decide) (by omega) (k := 0) (by decide) (fun i hi => absurd hi (Nat.not_lt_zero _)) snoc_at hsm) [(0, 37)] [] [] [] rfl rfl ⟨⟨_, _, rfl, AV.le.rfl, rfl⟩, ⟨_, _, rfl, AV.le.rfl, rfl⟩, trivial⟩ ⟨⟨_, _, rfl, rfl, AO.le.rfl, rfl⟩, trivial⟩ trivial ⟨⟨_, 9, _, rfl, rfl, rfl⟩, trivial⟩ ⟨Or.inr ⟨_, _, rfl, by decide, fun _ _ h => by obtain ⟨rfl, rfl⟩ := h; exact ⟨_, rfl⟩⟩, trivial⟩ trivial ?_
        rintro _ _ ⟨rfl, rfl⟩
        refine AL.wk (wk (sl := [(6, .d (.one (.v (.bool false)))), (8, .ptr 8 0), (9, .ptr 37 0), (11, .d (.one (.v (.int .i64 1)))), (13, .ptr 13 0), (68, .ptr 37 0), (69, .d (.agg ([.row 2 1 (fun i' j' => (([.v (.bool false), lr 6 (tw k)])[i' * 2 + j']?).getD (.v undef)), .row 2 1 (fun i' j' => (([.v (.bool false), lr 6 (tw k)])[i' * 2 + j']?).getD (.v undef)), .v (.bool false), lr 6 (tw k)]))), (70, .d (.agg ([.row 2 1 (fun i' j' => (([.v (.bool false), lr 6 (tw k)])[i' * 2 + j']?).getD (.v undef)), .row 2 1 (fun i' j' => (([.v (.bool false), lr 6 (tw k)])[i' * 2 + j']?).getD (.v undef)), .v (.bool false), lr 6 (tw k), .v (.int .i64 2)]))), (71, .d (.one (.v (.int .i64 0)))), (72, .d (.one (.v (.bool true)))), (73, .d (.one (.v (.bool true)))), (74, .ptr 37 0), (75, .d (.agg ([.row 2 1 (ael 6 (fX true k))] ++ [.row 2 2 (ael 6 (fY true k))] ++ zn 3 1))), (76, .d (.agg ([.row 2 1 (ael 6 (fX true k))] ++ [.row 2 2 (ael 6 (fY true k))] ++ zn 3 1 ++ [.v (.int .i64 2)]))), (77, .d (.one (.v (.int .i64 1))))]) (hp := [(8, .box 30 ([.row 2 1 (ael 6 (fX true k))] ++ [.row 2 2 (ael 6 (fY true k))] ++ zn 3 1)), (37, .is pp4 (.box 45 ([.v (.int .i64 3), .v (.int .i64 1), .row 5 (0 + 1) (pts 7 1 2 (snoc (fun _ _ => 0) 0 (ov ((B32 ^ k : Nat) : Int) (cfz 1 (fW k)))) (snoc (fun _ _ => 0) 0 (ov ((B32 ^ k : Nat) : Int) (cfz 1 (fW k)))) (snoc (fun _ => 0) 0 2))]))), (13, .box 30 ([.row 2 1 (fun i' j' => (([.v (.bool false), lr 6 (tw k)])[i' * 2 + j']?).getD (.v undef)), .row 2 1 (fun i' j' => (([.v (.bool false), lr 6 (tw k)])[i' * 2 + j']?).getD (.v undef)), .v (.bool false), lr 6 (tw k)]))]) rfl ⟨hs rfl, hs rfl, hs rfl, hs rfl, hs rfl, hs rfl, hs rfl, hs rfl, hs rfl, hs rfl, hs rfl, hs rfl, hs rfl, hs rfl, hs rfl, trivial⟩ ⟨ho rfl, ho rfl, ho rfl, trivial⟩ rfl) ?_
        refine mV hTT _ rfl ?_
        refine mV hTT (.d (.one (.v (.bool true)))) rfl ?_
        refine mV hTT _ rfl ?_
        refine mV hTT _ rfl ?_
        refine mC0 (aWakes23) rfl rfl rfl ?_
        refine mV hTT _ rfl ?_
        refine mV hTT _ rfl ?_
        refine mNil ?_
        refine tN ?_
        refine cRet ?_
        exact rQ rfl (AV.le.rfl)
      · skip
        have hsm : smC 1 2 (ov 1 (cx true k)) (ov 1 (cy true k)) := (sm_cut true true k).2 (fun h => hk4 h.1)
        refine cReg ?_
        refine mV hTT _ rfl ?_
        refine mV hTT (.d (.one (.v (.bool false)))) (evb (decide_eq_false (by omega))) ?_
        refine mV hTT _ rfl ?_
        refine mGt rfl rfl ?_
        refine mGt rfl rfl ?_
        refine mU rfl rfl ?_
        refine mGt rfl rfl ?_
        refine mV hTT _ rfl ?_
        refine mNil ?_
        refine tN ?_
        refine cF rfl ?_
        refine cSkip ?_
        refine tN ?_
        refine cSeq ?_
        refine cSeq ?_
        refine AW.wk (wk (sl := [(6, .d (.one (.v (.bool false)))), (7, .d (.one (lr 6 (tw k)))), (8, .ptr 8 0), (9, .ptr 37 0), (11, .d (.one (.v (.int .i64 0))))]) (hp := [(8, .box 30 ([.row 2 1 (ael 6 (fX true k))] ++ [.row 2 2 (ael 6 (fY true k))] ++ zn 3 1)), (37, .is pp4 (.box 45 ([.v (.int .i64 3), .v (.int .i64 1), .v (.slice none 0 0)])))]) rfl ⟨hs rfl, hs rfl, hs rfl, hs rfl, hs rfl, trivial⟩ ⟨ho rfl, ho rfl, trivial⟩ rfl) ?_
        refine cReg ?_
        refine mV hTT _ rfl ?_
        refine mV hTT (.d (.agg ([.row 2 1 (ael 6 (fX true k))] ++ [.row 2 2 (ael 6 (fY true k))] ++ zn 3 1))) rfl ?_
        refine mV hTT (.d (.agg ([.row 2 1 (ael 6 (fX true k))] ++ [.row 2 2 (ael 6 (fY true k))] ++ zn 3 1 ++ [.v (.int .i64 1)]))) rfl ?_
        refine mCL (aTPut (pp := pp4) (mp := 3) (md := 1) (K := 7) (n := 1) (m := 2) (N := 0) (p := (fun _ _ => 0)) (q := (fun _ _ => 0)) (ids := (fun _ => 0)) (x := (cx true k)) (y := (cy true k)) (D := 1) (id := 1) (isA (n := 1) (K := 6) (f := fX true k)) (isA (n := 2) (K := 6) (f := fY true k)) (IsZ.mono (L := 6) (isz 3 1) (by decide)) (by decide) (by omega) (by omega) cx_z cy_z (by omega) (by omega) (by decide) (by decide) (by decide) (by decide) (by omega) (fun i hi => absurd hi (Nat.not_lt_zero _)) hsm deg_12 (by decide)) [(0, 37)] [] [] [] rfl rfl ⟨⟨_, _, rfl, AV.le.rfl, rfl⟩, ⟨_, _, rfl, AV.le.rfl, rfl⟩, trivial⟩ ⟨⟨_, _, rfl, rfl, leo_tab0, rfl⟩, trivial⟩ trivial ⟨⟨_, 9, _, rfl, rfl, rfl⟩, trivial⟩ ⟨Or.inr ⟨_, _, rfl, by decide, fun _ _ h => by obtain ⟨rfl, rfl⟩ := h; exact ⟨_, rfl⟩⟩, trivial⟩ trivial ?_
        rintro _ _ ⟨rfl, rfl⟩
        refine AL.wk (wk (sl := [(6, .d (.one (.v (.bool false)))), (7, .d (.one (lr 6 (tw k)))), (8, .ptr 8 0), (9, .ptr 37 0), (11, .d (.one (.v (.int .i64 0)))), (54, .ptr 37 0), (55, .d (.agg ([.row 2 1 (ael 6 (fX true k))] ++ [.row 2 2 (ael 6 (fY true k))] ++ zn 3 1))), (56, .d (.agg ([.row 2 1 (ael 6 (fX true k))] ++ [.row 2 2 (ael 6 (fY true k))] ++ zn 3 1 ++ [.v (.int .i64 1)]))), (57, .d (.one (.v (.int .i64 0))))]) (hp := [(8, .box 30 ([.row 2 1 (ael 6 (fX true k))] ++ [.row 2 2 (ael 6 (fY true k))] ++ zn 3 1)), (37, .is pp4 (.box 45 ([.v (.int .i64 3), .v (.int .i64 1), .row 5 (0 + 1) (pts 7 1 2 (snoc (fun _ _ => 0) 0 (ov 1 (cx true k))) (snoc (fun _ _ => 0) 0 (ov 1 (cy true k))) (snoc (fun _ => 0) 0 1))])))]) rfl ⟨hs rfl, hs rfl, hs rfl, hs rfl, hs rfl, hs rfl, hs rfl, hs rfl, hs rfl, trivial⟩ ⟨ho rfl, ho rfl, trivial⟩ rfl) ?_
        refine mV hTT _ rfl ?_
        refine mV hTT (.d (.one (.v (.bool false)))) rfl ?_
        refine mNil ?_
        refine tN ?_
        refine cF rfl ?_
        refine cSkip ?_
        refine tN ?_
        refine cSeq ?_
        refine AW.wk (wk (sl := [(6, .d (.one (.v (.bool false)))), (7, .d (.one (lr 6 (tw k)))), (8, .ptr 8 0), (9, .ptr 37 0), (11, .d (.one (.v (.int .i64 0))))]) (hp := [(8, .box 30 ([.row 2 1 (ael 6 (fX true k))] ++ [.row 2 2 (ael 6 (fY true k))] ++ zn 3 1)), (37, .is pp4 (.box 45 ([.v (.int .i64 3), .v (.int .i64 1), .row 5 (0 + 1) (pts 7 1 2 (snoc (fun _ _ => 0) 0 (ov 1 (cx true k))) (snoc (fun _ _ => 0) 0 (ov 1 (cy true k))) (snoc (fun _ => 0) 0 1))])))]) rfl ⟨hs rfl, hs rfl, hs rfl, hs rfl, hs rfl, trivial⟩ ⟨ho rfl, ho rfl, trivial⟩ rfl) ?_
        refine cReg ?_
        refine mV hTT _ rfl ?_
        refine mV hTT (.d (.agg ([.v (.bool false), lr 6 (tw k)]))) rfl ?_
        refine mN hTT (.box 28 ([.v (.bool false), .v (.slice none 0 0)])) rfl rfl rfl ?_
        refine mS hTT 12 (.box 28 ([.v (.bool false), lr 6 (tw k)])) rfl ?_
        refine mNil ?_
        refine tN ?_
        refine cSeq ?_
        refine cReg ?_
        refine mV hTT (.d (.agg ([.v (.bool false), lr 6 (tw k)]))) rfl ?_
        refine mB hTT (.d (.one (.row 2 1 (fun i' j' => (([.v (.bool false), lr 6 (tw k)])[i' * 2 + j']?).getD (.v undef))))) rfl ?_
        refine mV hTT (.d (.agg ([.v (.bool false), lr 6 (tw k)]))) rfl ?_
        refine mB hTT (.d (.one (.row 2 1 (fun i' j' => (([.v (.bool false), lr 6 (tw k)])[i' * 2 + j']?).getD (.v undef))))) rfl ?_
        refine mV hTT (.d (.agg ([.v (.bool false), lr 6 (tw k)]))) rfl ?_
        refine mV hTT (.d (.agg ([.row 2 1 (fun i' j' => (([.v (.bool false), lr 6 (tw k)])[i' * 2 + j']?).getD (.v undef)), .row 2 1 (fun i' j' => (([.v (.bool false), lr 6 (tw k)])[i' * 2 + j']?).getD (.v undef)), .v (.bool false), lr 6 (tw k)]))) rfl ?_
        refine mN hTT (.box 30 ([.v (.slice none 0 0), .v (.slice none 0 0), .v (.bool false), .v (.slice none 0 0)])) rfl rfl rfl ?_
        refine mS hTT 13 (.box 30 ([.row 2 1 (fun i' j' => (([.v (.bool false), lr 6 (tw k)])[i' * 2 + j']?).getD (.v undef)), .row 2 1 (fun i' j' => (([.v (.bool false), lr 6 (tw k)])[i' * 2 + j']?).getD (.v undef)), .v (.bool false), lr 6 (tw k)])) rfl ?_
        refine mNil ?_
        refine tN ?_
        refine cSeq ?_
        refine AW.wk (wk (sl := [(6, .d (.one (.v (.bool false)))), (8, .ptr 8 0), (9, .ptr 37 0), (11, .d (.one (.v (.int .i64 0)))), (13, .ptr 13 0)]) (hp := [(8, .box 30 ([.row 2 1 (ael 6 (fX true k))] ++ [.row 2 2 (ael 6 (fY true k))] ++ zn 3 1)), (37, .is pp4 (.box 45 ([.v (.int .i64 3), .v (.int .i64 1), .row 5 (0 + 1) (pts 7 1 2 (snoc (fun _ _ => 0) 0 (ov 1 (cx true k))) (snoc (fun _ _ => 0) 0 (ov 1 (cy true k))) (snoc (fun _ => 0) 0 1))]))), (13, .box 30 ([.row 2 1 (fun i' j' => (([.v (.bool false), lr 6 (tw k)])[i' * 2 + j']?).getD (.v undef)), .row 2 1 (fun i' j' => (([.v (.bool false), lr 6 (tw k)])[i' * 2 + j']?).getD (.v undef)), .v (.bool false), lr 6 (tw k)]))]) rfl ⟨hs rfl, hs rfl, hs rfl, hs rfl, hs rfl, trivial⟩ ⟨ho rfl, ho rfl, ho rfl, trivial⟩ rfl) ?_
        refine cReg ?_
        refine mV hTT _ rfl ?_
        refine mV hTT (.d (.agg ([.row 2 1 (fun i' j' => (([.v (.bool false), lr 6 (tw k)])[i' * 2 + j']?).getD (.v undef)), .row 2 1 (fun i' j' => (([.v (.bool false), lr 6 (tw k)])[i' * 2 + j']?).getD (.v undef)), .v (.bool false), lr 6 (tw k)]))) rfl ?_
        refine mV hTT (.d (.agg ([.row 2 1 (fun i' j' => (([.v (.bool false), lr 6 (tw k)])[i' * 2 + j']?).getD (.v undef)), .row 2 1 (fun i' j' => (([.v (.bool false), lr 6 (tw k)])[i' * 2 + j']?).getD (.v undef)), .v (.bool false), lr 6 (tw k), .v (.int .i64 2)]))) rfl ?_
        refine mCL (aTPut (pp := pp4) (mp := 3) (md := 1) (K := 7) (n := 1) (m := 2) (N := (0 + 1)) (p := (snoc (fun _ _ => 0) 0 (ov 1 (cx true k)))) (q := (snoc (fun _ _ => 0) 0 (ov 1 (cy true k)))) (ids := (snoc (fun _ => 0) 0 1)) (x := (cfz 1 (fW k))) (y := (cfz 1 (fW k))) (D := ((B32 ^ k : Nat) : Int)) (id := 2) isW isW isZW (W_ne k) (by omega) (by omega) cfz_z (fun i hi => cfz_z i (by omega)) (by omega) (by omega) (by decide) (by decide) (by decide) (by decide) (by omega) (fun i hi => by obtain rfl : i = 0 := (by omega); rw [snoc_at]; decide) (sm_W k) deg_12 (by decide)) [(0, 37)] [] [] [] rfl rfl ⟨⟨_, _, rfl, AV.le.rfl, rfl⟩, ⟨_, _, rfl, AV.le.rfl, rfl⟩, trivial⟩ ⟨⟨_, _, rfl, rfl, AO.le.rfl, rfl⟩, trivial⟩ trivial ⟨⟨_, 9, _, rfl, rfl, rfl⟩, trivial⟩ ⟨Or.inr ⟨_, _, rfl, by decide, fun _ _ h => by obtain ⟨rfl, rfl⟩ := h; exact ⟨_, rfl⟩⟩, trivial⟩ trivial ?_
        rintro _ _ ⟨rfl, rfl⟩
        refine AL.wk (wk (sl := [(6, .d (.one (.v (.bool false)))), (8, .ptr 8 0), (9, .ptr 37 0), (11, .d (.one (.v (.int .i64 0)))), (13, .ptr 13 0), (68, .ptr 37 0), (69, .d (.agg ([.row 2 1 (fun i' j' => (([.v (.bool false), lr 6 (tw k)])[i' * 2 + j']?).getD (.v undef)), .row 2 1 (fun i' j' => (([.v (.bool false), lr 6 (tw k)])[i' * 2 + j']?).getD (.v undef)), .v (.bool false), lr 6 (tw k)]))), (70, .d (.agg ([.row 2 1 (fun i' j' => (([.v (.bool false), lr 6 (tw k)])[i' * 2 + j']?).getD (.v undef)), .row 2 1 (fun i' j' => (([.v (.bool false), lr 6 (tw k)])[i' * 2 + j']?).getD (.v undef)), .v (.bool false), lr 6 (tw k), .v (.int .i64 2)]))), (71, .d (.one (.v (.int .i64 0))))]) (hp := [(8, .box 30 ([.row 2 1 (ael 6 (fX true k))] ++ [.row 2 2 (ael 6 (fY true k))] ++ zn 3 1)), (37, .is pp4 (.box 45 ([.v (.int .i64 3), .v (.int .i64 1), .row 5 ((0 + 1) + 1) (pts 7 1 2 (snoc (snoc (fun _ _ => 0) 0 (ov 1 (cx true k))) (0 + 1) (ov ((B32 ^ k : Nat) : Int) (cfz 1 (fW k)))) (snoc (snoc (fun _ _ => 0) 0 (ov 1 (cy true k))) (0 + 1) (ov ((B32 ^ k : Nat) : Int) (cfz 1 (fW k)))) (snoc (snoc (fun _ => 0) 0 1) (0 + 1) 2))]))), (13, .box 30 ([.row 2 1 (fun i' j' => (([.v (.bool false), lr 6 (tw k)])[i' * 2 + j']?).getD (.v undef)), .row 2 1 (fun i' j' => (([.v (.bool false), lr 6 (tw k)])[i' * 2 + j']?).getD (.v undef)), .v (.bool false), lr 6 (tw k)]))]) rfl ⟨hs rfl, hs rfl, hs rfl, hs rfl, hs rfl, hs rfl, hs rfl, hs rfl, hs rfl, trivial⟩ ⟨ho rfl, ho rfl, ho rfl, trivial⟩ rfl) ?_
        refine mV hTT (.d (.one (.v (.bool true)))) rfl ?_
        refine mV hTT _ rfl ?_
        refine mV hTT _ rfl ?_
        refine mV hTT (.d (.agg ([.row 2 1 (ael 6 (fX true k))] ++ [.row 2 2 (ael 6 (fY true k))] ++ zn 3 1))) rfl ?_
        refine mV hTT (.d (.agg ([.row 2 1 (ael 6 (fX true k))] ++ [.row 2 2 (ael 6 (fY true k))] ++ zn 3 1 ++ [.v (.int .i64 2)]))) rfl ?_
        refine mCL (aTTurn (pp := pp4) (mp := 3) (md := 1) (K := 7) (n := 1) (m := 2) (N := ((0 + 1) + 1)) (p := (snoc (snoc (fun _ _ => 0) 0 (ov 1 (cx true k))) (0 + 1) (ov ((B32 ^ k : Nat) : Int) (cfz 1 (fW k))))) (q := (snoc (snoc (fun _ _ => 0) 0 (ov 1 (cy true k))) (0 + 1) (ov ((B32 ^ k : Nat) : Int) (cfz 1 (fW k))))) (ids := (snoc (snoc (fun _ => 0) 0 1) (0 + 1) 2)) (x := (cx true k)) (y := (cy true k)) (D := 1) (id := 2) (isA (n := 1) (K := 6) (f := fX true k)) (isA (n := 2) (K := 6) (f := fY true k)) (IsZ.mono (L := 6) (isz 3 1) (by decide)) (by decide) (by omega) (by omega) cx_z cy_z (by omega) (by omega) (by decide) (by decide) (by decide) (by decide) (by omega) (k := (0 + 1)) (by decide) (fun i hi => by obtain rfl : i = 0 := (by omega); rw [snoc_ne (by omega), snoc_at]; decide) snoc_at hsm deg_12) [(0, 37)] [] [] [] rfl rfl ⟨⟨_, _, rfl, AV.le.rfl, rfl⟩, ⟨_, _, rfl, AV.le.rfl, rfl⟩, trivial⟩ ⟨⟨_, _, rfl, rfl, AO.le.rfl, rfl⟩, trivial⟩ trivial ⟨⟨_, 9, _, rfl, rfl, rfl⟩, trivial⟩ ⟨Or.inr ⟨_, _, rfl, by decide, fun _ _ h => by obtain ⟨rfl, cc, rfl⟩ := h; exact ⟨_, rfl⟩⟩, trivial⟩ trivial ?_
        rintro _ _ ⟨rfl, cc, rfl⟩
        refine AL.wk (wk (sl := [(6, .d (.one (.v (.bool false)))), (8, .ptr 8 0), (9, .ptr 37 0), (11, .d (.one (.v (.int .i64 0)))), (13, .ptr 13 0), (68, .ptr 37 0), (69, .d (.agg ([.row 2 1 (fun i' j' => (([.v (.bool false), lr 6 (tw k)])[i' * 2 + j']?).getD (.v undef)), .row 2 1 (fun i' j' => (([.v (.bool false), lr 6 (tw k)])[i' * 2 + j']?).getD (.v undef)), .v (.bool false), lr 6 (tw k)]))), (70, .d (.agg ([.row 2 1 (fun i' j' => (([.v (.bool false), lr 6 (tw k)])[i' * 2 + j']?).getD (.v undef)), .row 2 1 (fun i' j' => (([.v (.bool false), lr 6 (tw k)])[i' * 2 + j']?).getD (.v undef)), .v (.bool false), lr 6 (tw k), .v (.int .i64 2)]))), (71, .d (.one (.v (.int .i64 0)))), (72, .d (.one (.v (.bool true)))), (73, .d (.one (.v (.bool true)))), (74, .ptr 37 0), (75, .d (.agg ([.row 2 1 (ael 6 (fX true k))] ++ [.row 2 2 (ael 6 (fY true k))] ++ zn 3 1))), (76, .d (.agg ([.row 2 1 (ael 6 (fX true k))] ++ [.row 2 2 (ael 6 (fY true k))] ++ zn 3 1 ++ [.v (.int .i64 2)]))), (77, .d (.one (.v (.int .i64 0))))]) (hp := [(8, .box 30 ([.row 2 1 (ael 6 (fX true k))] ++ [.row 2 2 (ael 6 (fY true k))] ++ zn 3 1)), (37, .is pp4 (.box 45 ([.v (.int .i64 3), .v (.int .i64 1), cc]))), (13, .box 30 ([.row 2 1 (fun i' j' => (([.v (.bool false), lr 6 (tw k)])[i' * 2 + j']?).getD (.v undef)), .row 2 1 (fun i' j' => (([.v (.bool false), lr 6 (tw k)])[i' * 2 + j']?).getD (.v undef)), .v (.bool false), lr 6 (tw k)]))]) rfl ⟨hs rfl, hs rfl, hs rfl, hs rfl, hs rfl, hs rfl, hs rfl, hs rfl, hs rfl, hs rfl, hs rfl, hs rfl, hs rfl, hs rfl, hs rfl, trivial⟩ ⟨ho rfl, ho rfl, ho rfl, trivial⟩ rfl) ?_
        refine mV hTT _ rfl ?_
        refine mV hTT (.d (.one (.v (.bool true)))) rfl ?_
        refine mV hTT _ rfl ?_
        refine mV hTT _ rfl ?_
        refine mC0 (aWakes23) rfl rfl rfl ?_
        refine mV hTT _ rfl ?_
        refine mV hTT _ rfl ?_
        refine mNil ?_
        refine tN ?_
        refine cRet ?_
        exact rQ rfl (AV.le.rfl)

end Go.Proofs.Ytpnoklbijfmoaaa

