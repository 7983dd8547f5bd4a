/-
  TEXTS THAT ARE RATIONALS; chapter 4's helps, by the machine.
-/
import Derived.Test.YtmfmeecnieblpaaJ5
import Derived.Test.YtmfmeecnieblpaaJ6
set_option linter.unusedVariables false
set_option linter.unusedSimpArgs false
namespace Go.Proofs.Ytmfmeecnieblpaa
open Go.RowKit

theorem ext_all (b : ByteArray) : b.extract 0 b.size = b := bytes_ext (by rw [size_ext (Nat.le_refl _)]; omega) (fun i hi => by rw [size_ext (Nat.le_refl _)] at hi; rw [sb_ext (Nat.le_refl _) (by omega), Nat.zero_add])
theorem okT_pos {b : ByteArray} (h : okT b) : 0 < b.size := by
  obtain ⟨h1, _, _⟩ := h
  apply Classical.byContradiction
  intro hn
  have hg : isneg b = false := decide_eq_false (fun e => hn e.1)
  have hb : body b = b := by unfold body; rw [hg]; rfl
  rw [hb] at h1; omega
theorem neg_first {b : ByteArray} {k : Nat} (hn : isneg (b.extract (k + 1) b.size) = false) (hk : k + 1 < b.size) : sb b (k + 1) ≠ 45 := by
  intro e
  have h1 : ¬ _ := of_decide_eq_false hn
  refine h1 ⟨by rw [size_ext (Nat.le_refl _)]; omega, ?_⟩
  rw [sb_ext (Nat.le_refl _) (by omega), Nat.add_zero]; exact e
theorem neg_at {b : ByteArray} {k : Nat} (hn : isneg (b.extract (k + 1) b.size) = true) : k + 1 < b.size ∧ sb b (k + 1) = 45 := by
  obtain ⟨h1, h2⟩ := of_decide_eq_true hn
  rw [size_ext (Nat.le_refl _)] at h1
  rw [sb_ext (Nat.le_refl _) (by omega), Nat.add_zero] at h2
  exact ⟨by omega, h2⟩
theorem ok_more {b : ByteArray} {k : Nat} (h : okT (b.extract (k + 1) b.size)) : k + 1 < b.size := by
  have := okT_pos h
  rw [size_ext (Nat.le_refl _)] at this; omega
set_option maxRecDepth 100000 in
set_option maxHeartbeats 4000000 in
theorem aTPFrac {b : ByteArray} {k : Nat} (hk : k < b.size) (hb : b.size ≤ 1000000) (hk1 : ∀ i, i < k → sb b i ≠ 47) (hk2 : sb b k = 47) (hl : okT (ByteArray.extract b 0 k)) (hn : isneg (ByteArray.extract b (k + 1) (ByteArray.size b)) = false) (hr : okT (ByteArray.extract b (k + 1) (ByteArray.size b))) (hd : pvl (ByteArray.extract b (k + 1) (ByteArray.size b)) ≠ 0) : ACall Try.prog 24 [.one (.v (.string b))] (.tup [.agg (tn 1201 (Rat.divInt (pvl (ByteArray.extract b 0 k)) (pvl (ByteArray.extract b (k + 1) (ByteArray.size b))))), .one (.v (.int .i64 0))]) := by
  have hks1 := ok_more hr
  have hne := neg_first hn hks1
  refine acallN hTT 80 [.cell 2 27, .tmp 3] Try.func24 rfl rfl rfl rfl rfl ?_
  refine cSeq ?_
  refine cReg ?_
  refine mN hTT (.box 27 ([.v (.bool false), .v (.slice none 0 0), .v (.bool false), .v (.slice none 0 0)])) rfl rfl rfl ?_
  refine mV hTT _ rfl ?_
  refine mNil ?_
  refine tN ?_
  refine cSeq ?_
  refine cReg ?_
  refine mV hTT _ rfl ?_
  refine mNil ?_
  refine tN ?_
  refine cSeq ?_
  refine cSeq ?_
  refine cReg ?_
  refine mV hTT _ rfl ?_
  refine mNil ?_
  refine tN ?_
  refine cBlock ?_
  refine cLoop (ι := Nat) (fun (i : Nat) => ⟨80, [(0, .d (.one (.v (.string b)))), (2, .ptr 2 0), (3, .d (.one (.v (.int .i64 0)))), (4, .d (.one (.v (.int .i64 (if i ≤ k then (-1 : Int) else (k : Int)))))), (5, .d (.one (.v (.int .i64 ((i : Nat) : Int)))))], [(2, .box 27 ([.v (.bool false), .v (.slice none 0 0), .v (.bool false), .v (.slice none 0 0)]))]⟩) (fun (i : Nat) => i ≤ k + 1) (fun (i : Nat) => k + 1 - i) 0 (Nat.zero_le _) (wk (sl := [(0, .d (.one (.v (.string b)))), (2, .ptr 2 0), (3, .d (.one (.v (.int .i64 0)))), (4, .d (.one (.v (.int .i64 (if 0 ≤ k then (-1 : Int) else (k : Int)))))), (5, .d (.one (.v (.int .i64 ((0 : Nat) : Int)))))]) (hp := [(2, .box 27 ([.v (.bool false), .v (.slice none 0 0), .v (.bool false), .v (.slice none 0 0)]))]) rfl ⟨hs rfl, hs rfl, hs rfl, hs' rfl (le_int (if_pos (Nat.zero_le _)).symm), hs' rfl (le_int rfl), trivial⟩ ⟨ho rfl, trivial⟩ rfl) ?_
  rintro i hI
  have hi : i ≤ k + 1 := hI
  show AW Try.prog _ _ ⟨80, [(0, .d (.one (.v (.string b)))), (2, .ptr 2 0), (3, .d (.one (.v (.int .i64 0)))), (4, .d (.one (.v (.int .i64 (if i ≤ k then (-1 : Int) else (k : Int)))))), (5, .d (.one (.v (.int .i64 ((i : Nat) : Int)))))], [(2, .box 27 ([.v (.bool false), .v (.slice none 0 0), .v (.bool false), .v (.slice none 0 0)]))]⟩
  refine cSeq ?_
  refine cSeq ?_
  by_cases hik : i ≤ k
  · skip
    refine cView 4 (.d (.one (.v (.int .i64 (-1))))) rfl (le_int (if_pos hik)) ?_
    refine cReg ?_
    refine mV hTT _ rfl ?_
    refine mV hTT _ rfl ?_
    refine mX (.d (.one (.v (.int .i64 (ByteArray.size b : Int))))) (xLen (b := b) rfl rfl rfl rfl Try.underlying9 rfl) ?_
    refine mV hTT (.d (.one (.v (.bool true)))) (evb (decide_eq_true (by omega))) ?_
    refine mV hTT _ rfl ?_
    refine mV hTT _ rfl ?_
    refine mV hTT (.d (.one (.v (.bool true)))) rfl ?_
    refine mV hTT _ rfl ?_
    refine mNil ?_
    refine tN ?_
    refine cT rfl ?_
    refine cSkip ?_
    refine tN ?_
    refine cSeq ?_
    refine cBlock ?_
    refine cSeq ?_
    by_cases hieq : i = k
    · skip
      refine cReg ?_
      refine mV hTT _ rfl ?_
      refine mV hTT _ rfl ?_
      refine mX (.d (.one (.v (.int .u8 (sb b i : Int))))) (xIx (b := b) (z := ((i : Nat) : Int)) rfl Try.underlying9 rfl rfl (by omega) (by omega)) ?_
      refine mV hTT (.d (.one (.v (.bool true)))) (evb (by rw [hieq, hk2]; rfl)) ?_
      refine mNil ?_
      refine tN ?_
      refine cT rfl ?_
      refine cReg ?_
      refine mV hTT _ rfl ?_
      refine mV hTT _ rfl ?_
      refine mNil ?_
      refine bN ?_
      refine tN ?_
      refine cReg ?_
      refine mV hTT _ rfl ?_
      refine mV hTT (.d (.one (.v (.int .i64 (IntKind.i64.wrap (((i : Nat) : Int) + 1)))))) rfl ?_
      refine mV hTT _ rfl ?_
      refine mNil ?_
      exact ⟨(i + 1), by omega, by omega, wk (sl := [(0, .d (.one (.v (.string b)))), (2, .ptr 2 0), (3, .d (.one (.v (.int .i64 0)))), (4, .d (.one (.v (.int .i64 (if (i + 1) ≤ k then (-1 : Int) else (k : Int)))))), (5, .d (.one (.v (.int .i64 (((i + 1) : Nat) : Int)))))]) (hp := [(2, .box 27 ([.v (.bool false), .v (.slice none 0 0), .v (.bool false), .v (.slice none 0 0)]))]) rfl ⟨hs rfl, hs rfl, hs rfl, hs' rfl (le_int (by rw [if_neg (by omega), hieq])), hs' rfl (le_int ((wr64 (by omega) (by omega)).trans (by omega))), trivial⟩ ⟨ho rfl, trivial⟩ rfl⟩
    · skip
      refine cReg ?_
      refine mV hTT _ rfl ?_
      refine mV hTT _ rfl ?_
      refine mX (.d (.one (.v (.int .u8 (sb b i : Int))))) (xIx (b := b) (z := ((i : Nat) : Int)) rfl Try.underlying9 rfl rfl (by omega) (by omega)) ?_
      refine mV hTT (.d (.one (.v (.bool false)))) (evb (beq_eq_false_iff_ne.2 fun e => hk1 i (by omega) (by omega))) ?_
      refine mNil ?_
      refine tN ?_
      refine cF rfl ?_
      refine cSkip ?_
      refine bN ?_
      refine tN ?_
      refine cReg ?_
      refine mV hTT _ rfl ?_
      refine mV hTT (.d (.one (.v (.int .i64 (IntKind.i64.wrap (((i : Nat) : Int) + 1)))))) rfl ?_
      refine mV hTT _ rfl ?_
      refine mNil ?_
      exact ⟨(i + 1), by omega, by omega, wk (sl := [(0, .d (.one (.v (.string b)))), (2, .ptr 2 0), (3, .d (.one (.v (.int .i64 0)))), (4, .d (.one (.v (.int .i64 (if (i + 1) ≤ k then (-1 : Int) else (k : Int)))))), (5, .d (.one (.v (.int .i64 (((i + 1) : Nat) : Int)))))]) (hp := [(2, .box 27 ([.v (.bool false), .v (.slice none 0 0), .v (.bool false), .v (.slice none 0 0)]))]) rfl ⟨hs rfl, hs rfl, hs rfl, hs' rfl (le_int (if_pos (by omega)).symm), hs' rfl (le_int ((wr64 (by omega) (by omega)).trans (by omega))), trivial⟩ ⟨ho rfl, trivial⟩ rfl⟩
  · skip
    have hie : i = k + 1 := by omega
    refine cView 4 (.d (.one (.v (.int .i64 (k : Int))))) rfl (le_int (if_neg hik)) ?_
    by_cases hks : k + 1 < b.size
    · skip
      refine cReg ?_
      refine mV hTT _ rfl ?_
      refine mV hTT _ rfl ?_
      refine mX (.d (.one (.v (.int .i64 (ByteArray.size b : Int))))) (xLen (b := b) rfl rfl rfl rfl Try.underlying9 rfl) ?_
      refine mV hTT (.d (.one (.v (.bool true)))) (evb (decide_eq_true (by omega))) ?_
      refine mV hTT _ rfl ?_
      refine mV hTT _ rfl ?_
      refine mV hTT (.d (.one (.v (.bool false)))) (evb (decide_eq_false (by omega))) ?_
      refine mV hTT _ rfl ?_
      refine mNil ?_
      refine tN ?_
      refine cF rfl ?_
      refine cExit ?_
      refine tE ?_
      refine tE ?_
      refine bE ?_
      refine tN ?_
      refine cSeq ?_
      refine cSeq ?_
      refine cReg ?_
      refine mV hTT _ rfl ?_
      refine mV hTT (.d (.one (.v (.bool false)))) (evb (decide_eq_false (by omega))) ?_
      refine mNil ?_
      refine tN ?_
      refine cF rfl ?_
      refine cSkip ?_
      refine tN ?_
      refine cSeq ?_
      refine cReg ?_
      refine mV hTT _ rfl ?_
      refine mV hTT _ rfl ?_
      refine mX (.d (.one (.v (.string (ByteArray.extract b 0 k))))) (xSl (b := b) (l' := 0) (h' := k) rfl Try.underlying9 rfl rfl (bndN rfl) (by omega) (by omega)) ?_
      refine mC0 (aDParse (b := (ByteArray.extract b 0 k)) hl) rfl rfl rfl ?_
      refine mV hTT _ rfl ?_
      refine mV hTT _ rfl ?_
      refine mV hTT _ rfl ?_
      refine mN hTT (.box 24 ([.v (.bool false), .v (.slice none 0 0)])) rfl rfl rfl ?_
      refine mS hTT 8 (.box 24 (zn 1200 (pvl (ByteArray.extract b 0 k)))) rfl ?_
      refine mV hTT _ rfl ?_
      refine mNil ?_
      refine tN ?_
      refine cSeq ?_
      refine cSeq ?_
      refine cReg ?_
      refine mV hTT _ rfl ?_
      refine mV hTT (.d (.one (.v (.bool false)))) rfl ?_
      refine mNil ?_
      refine tN ?_
      refine cF rfl ?_
      refine cSkip ?_
      refine tN ?_
      refine cSeq ?_
      refine cSeq ?_
      refine cReg ?_
      refine mV hTT _ rfl ?_
      refine mV hTT (.d (.one (.v (.int .i64 ((k + 1 : Nat) : Int))))) (evi ((wr64 (by omega) (by omega)).trans (by omega))) ?_
      refine mV hTT _ rfl ?_
      refine mX (.d (.one (.v (.int .i64 (ByteArray.size b : Int))))) (xLen (b := b) rfl rfl rfl rfl Try.underlying9 rfl) ?_
      refine mV hTT (.d (.one (.v (.bool true)))) (evb (decide_eq_true (by omega))) ?_
      refine mV hTT _ rfl ?_
      refine mV hTT _ rfl ?_
      refine mV hTT _ rfl ?_
      refine mV hTT (.d (.one (.v (.int .i64 ((k + 1 : Nat) : Int))))) (evi ((wr64 (by omega) (by omega)).trans (by omega))) ?_
      refine mX (.d (.one (.v (.int .u8 (sb b (k + 1) : Int))))) (xIx (b := b) (z := ((k + 1 : Nat) : Int)) rfl Try.underlying9 rfl rfl (by omega) (by omega)) ?_
      refine mV hTT (.d (.one (.v (.bool false)))) (evb (beq_eq_false_iff_ne.2 fun e => hne (by omega))) ?_
      refine mV hTT _ rfl ?_
      refine mNil ?_
      refine tN ?_
      refine cF rfl ?_
      refine cSkip ?_
      refine tN ?_
      refine cSeq ?_
      refine cReg ?_
      refine mV hTT _ rfl ?_
      refine mV hTT _ rfl ?_
      refine mV hTT (.d (.one (.v (.int .i64 ((k + 1 : Nat) : Int))))) (evi ((wr64 (by omega) (by omega)).trans (by omega))) ?_
      refine mX (.d (.one (.v (.string (ByteArray.extract b (k + 1) (ByteArray.size b)))))) (xSl (b := b) (l' := (k + 1)) (h' := (ByteArray.size b)) rfl Try.underlying9 rfl (bndN rfl) rfl (by omega) (Nat.le_refl _)) ?_
      refine mC0 (aDParse (b := (ByteArray.extract b (k + 1) (ByteArray.size b))) hr) rfl rfl rfl ?_
      refine mV hTT _ rfl ?_
      refine mV hTT _ rfl ?_
      refine mV hTT _ rfl ?_
      refine mN hTT (.box 24 ([.v (.bool false), .v (.slice none 0 0)])) rfl rfl rfl ?_
      refine mS hTT 10 (.box 24 (zn 1200 (pvl (ByteArray.extract b (k + 1) (ByteArray.size b))))) rfl ?_
      refine mV hTT _ rfl ?_
      refine mNil ?_
      refine tN ?_
      refine cSeq ?_
      refine cSeq ?_
      refine cReg ?_
      refine mV hTT _ rfl ?_
      refine mV hTT (.d (.one (.v (.bool false)))) rfl ?_
      refine mNil ?_
      refine tN ?_
      refine cF rfl ?_
      refine cSkip ?_
      refine tN ?_
      refine cSeq ?_
      refine cReg ?_
      refine mV hTT (.d (.agg (zn 1200 (pvl (ByteArray.extract b 0 k))))) rfl ?_
      refine mV hTT (.d (.agg (zn 1200 (pvl (ByteArray.extract b (k + 1) (ByteArray.size b)))))) rfl ?_
      refine mC0 (aTMake (isz 1200 (pvl (ByteArray.extract b 0 k))) (isz 1200 (pvl (ByteArray.extract b (k + 1) (ByteArray.size b)))) hd (M := 1201) (by decide) (by decide)) rfl rfl rfl ?_
      refine mV hTT _ rfl ?_
      refine mV hTT _ rfl ?_
      refine mS hTT 2 (.box 27 (tn 1201 (Rat.divInt (pvl (ByteArray.extract b 0 k)) (pvl (ByteArray.extract b (k + 1) (ByteArray.size b)))))) rfl ?_
      refine mV hTT _ rfl ?_
      refine mNil ?_
      refine tN ?_
      refine cRet ?_
      exact rQ rfl (AV.le.rfl)
    · skip
      refine cReg ?_
      refine mV hTT _ rfl ?_
      refine mV hTT _ rfl ?_
      refine mX (.d (.one (.v (.int .i64 (ByteArray.size b : Int))))) (xLen (b := b) rfl rfl rfl rfl Try.underlying9 rfl) ?_
      refine mV hTT (.d (.one (.v (.bool false)))) (evb (decide_eq_false (by omega))) ?_
      refine mV hTT _ rfl ?_
      refine mG rfl rfl ?_
      refine mG rfl rfl ?_
      refine mV hTT _ rfl ?_
      refine mNil ?_
      refine tN ?_
      refine cF rfl ?_
      refine cExit ?_
      refine tE ?_
      refine tE ?_
      refine bE ?_
      refine tN ?_
      refine cSeq ?_
      refine cSeq ?_
      refine cReg ?_
      refine mV hTT _ rfl ?_
      refine mV hTT (.d (.one (.v (.bool false)))) (evb (decide_eq_false (by omega))) ?_
      refine mNil ?_
      refine tN ?_
      refine cF rfl ?_
      refine cSkip ?_
      refine tN ?_
      refine cSeq ?_
      refine cReg ?_
      refine mV hTT _ rfl ?_
      refine mV hTT _ rfl ?_
      refine mX (.d (.one (.v (.string (ByteArray.extract b 0 k))))) (xSl (b := b) (l' := 0) (h' := k) rfl Try.underlying9 rfl rfl (bndN rfl) (by omega) (by omega)) ?_
      refine mC0 (aDParse (b := (ByteArray.extract b 0 k)) hl) rfl rfl rfl ?_
      refine mV hTT _ rfl ?_
      refine mV hTT _ rfl ?_
      refine mV hTT _ rfl ?_
      refine mN hTT (.box 24 ([.v (.bool false), .v (.slice none 0 0)])) rfl rfl rfl ?_
      refine mS hTT 8 (.box 24 (zn 1200 (pvl (ByteArray.extract b 0 k)))) rfl ?_
      refine mV hTT _ rfl ?_
      refine mNil ?_
      refine tN ?_
      refine cSeq ?_
      refine cSeq ?_
      refine cReg ?_
      refine mV hTT _ rfl ?_
      refine mV hTT (.d (.one (.v (.bool false)))) rfl ?_
      refine mNil ?_
      refine tN ?_
      refine cF rfl ?_
      refine cSkip ?_
      refine tN ?_
      refine cSeq ?_
      refine cSeq ?_
      refine cReg ?_
      refine mV hTT _ rfl ?_
      refine mV hTT (.d (.one (.v (.int .i64 ((k + 1 : Nat) : Int))))) (evi ((wr64 (by omega) (by omega)).trans (by omega))) ?_
      refine mV hTT _ rfl ?_
      refine mX (.d (.one (.v (.int .i64 (ByteArray.size b : Int))))) (xLen (b := b) rfl rfl rfl rfl Try.underlying9 rfl) ?_
      refine mV hTT (.d (.one (.v (.bool true)))) (evb (decide_eq_true (by omega))) ?_
      refine mV hTT _ rfl ?_
      refine mV hTT _ rfl ?_
      refine mV hTT _ rfl ?_
      refine mV hTT (.d (.one (.v (.int .i64 ((k + 1 : Nat) : Int))))) (evi ((wr64 (by omega) (by omega)).trans (by omega))) ?_
      refine mX (.d (.one (.v (.int .u8 (sb b (k + 1) : Int))))) (xIx (b := b) (z := ((k + 1 : Nat) : Int)) rfl Try.underlying9 rfl rfl (by omega) (by omega)) ?_
      refine mV hTT (.d (.one (.v (.bool false)))) (evb (beq_eq_false_iff_ne.2 fun e => hne (by omega))) ?_
      refine mV hTT _ rfl ?_
      refine mNil ?_
      refine tN ?_
      refine cF rfl ?_
      refine cSkip ?_
      refine tN ?_
      refine cSeq ?_
      refine cReg ?_
      refine mV hTT _ rfl ?_
      refine mV hTT _ rfl ?_
      refine mV hTT (.d (.one (.v (.int .i64 ((k + 1 : Nat) : Int))))) (evi ((wr64 (by omega) (by omega)).trans (by omega))) ?_
      refine mX (.d (.one (.v (.string (ByteArray.extract b (k + 1) (ByteArray.size b)))))) (xSl (b := b) (l' := (k + 1)) (h' := (ByteArray.size b)) rfl Try.underlying9 rfl (bndN rfl) rfl (by omega) (Nat.le_refl _)) ?_
      refine mC0 (aDParse (b := (ByteArray.extract b (k + 1) (ByteArray.size b))) hr) rfl rfl rfl ?_
      refine mV hTT _ rfl ?_
      refine mV hTT _ rfl ?_
      refine mV hTT _ rfl ?_
      refine mN hTT (.box 24 ([.v (.bool false), .v (.slice none 0 0)])) rfl rfl rfl ?_
      refine mS hTT 10 (.box 24 (zn 1200 (pvl (ByteArray.extract b (k + 1) (ByteArray.size b))))) rfl ?_
      refine mV hTT _ rfl ?_
      refine mNil ?_
      refine tN ?_
      refine cSeq ?_
      refine cSeq ?_
      refine cReg ?_
      refine mV hTT _ rfl ?_
      refine mV hTT (.d (.one (.v (.bool false)))) rfl ?_
      refine mNil ?_
      refine tN ?_
      refine cF rfl ?_
      refine cSkip ?_
      refine tN ?_
      refine cSeq ?_
      refine cReg ?_
      refine mV hTT (.d (.agg (zn 1200 (pvl (ByteArray.extract b 0 k))))) rfl ?_
      refine mV hTT (.d (.agg (zn 1200 (pvl (ByteArray.extract b (k + 1) (ByteArray.size b)))))) rfl ?_
      refine mC0 (aTMake (isz 1200 (pvl (ByteArray.extract b 0 k))) (isz 1200 (pvl (ByteArray.extract b (k + 1) (ByteArray.size b)))) hd (M := 1201) (by decide) (by decide)) rfl rfl rfl ?_
      refine mV hTT _ rfl ?_
      refine mV hTT _ rfl ?_
      refine mS hTT 2 (.box 27 (tn 1201 (Rat.divInt (pvl (ByteArray.extract b 0 k)) (pvl (ByteArray.extract b (k + 1) (ByteArray.size b)))))) rfl ?_
      refine mV hTT _ rfl ?_
      refine mNil ?_
      refine tN ?_
      refine cRet ?_
      exact rQ rfl (AV.le.rfl)

set_option maxRecDepth 100000 in
set_option maxHeartbeats 4000000 in
theorem aTPFrac0 {b : ByteArray} {k : Nat} (hk : k < b.size) (hb : b.size ≤ 1000000) (hk1 : ∀ i, i < k → sb b i ≠ 47) (hk2 : sb b k = 47) (hl : okT (ByteArray.extract b 0 k)) (hn : isneg (ByteArray.extract b (k + 1) (ByteArray.size b)) = false) (hr : okT (ByteArray.extract b (k + 1) (ByteArray.size b))) (hd : pvl (ByteArray.extract b (k + 1) (ByteArray.size b)) = 0) : ACall Try.prog 24 [.one (.v (.string b))] (.tup [.agg [.v (.bool false), .v (.slice none 0 0), .v (.bool false), .v (.slice none 0 0)], .one (.v (.int .i64 2))]) := by
  have hks1 := ok_more hr
  have hne := neg_first hn hks1
  refine acallN hTT 80 [.cell 2 27, .tmp 3] Try.func24 rfl rfl rfl rfl rfl ?_
  refine cSeq ?_
  refine cReg ?_
  refine mN hTT (.box 27 ([.v (.bool false), .v (.slice none 0 0), .v (.bool false), .v (.slice none 0 0)])) rfl rfl rfl ?_
  refine mV hTT _ rfl ?_
  refine mNil ?_
  refine tN ?_
  refine cSeq ?_
  refine cReg ?_
  refine mV hTT _ rfl ?_
  refine mNil ?_
  refine tN ?_
  refine cSeq ?_
  refine cSeq ?_
  refine cReg ?_
  refine mV hTT _ rfl ?_
  refine mNil ?_
  refine tN ?_
  refine cBlock ?_
  refine cLoop (ι := Nat) (fun (i : Nat) => ⟨80, [(0, .d (.one (.v (.string b)))), (2, .ptr 2 0), (3, .d (.one (.v (.int .i64 0)))), (4, .d (.one (.v (.int .i64 (if i ≤ k then (-1 : Int) else (k : Int)))))), (5, .d (.one (.v (.int .i64 ((i : Nat) : Int)))))], [(2, .box 27 ([.v (.bool false), .v (.slice none 0 0), .v (.bool false), .v (.slice none 0 0)]))]⟩) (fun (i : Nat) => i ≤ k + 1) (fun (i : Nat) => k + 1 - i) 0 (Nat.zero_le _) (wk (sl := [(0, .d (.one (.v (.string b)))), (2, .ptr 2 0), (3, .d (.one (.v (.int .i64 0)))), (4, .d (.one (.v (.int .i64 (if 0 ≤ k then (-1 : Int) else (k : Int)))))), (5, .d (.one (.v (.int .i64 ((0 : Nat) : Int)))))]) (hp := [(2, .box 27 ([.v (.bool false), .v (.slice none 0 0), .v (.bool false), .v (.slice none 0 0)]))]) rfl ⟨hs rfl, hs rfl, hs rfl, hs' rfl (le_int (if_pos (Nat.zero_le _)).symm), hs' rfl (le_int rfl), trivial⟩ ⟨ho rfl, trivial⟩ rfl) ?_
  rintro i hI
  have hi : i ≤ k + 1 := hI
  show AW Try.prog _ _ ⟨80, [(0, .d (.one (.v (.string b)))), (2, .ptr 2 0), (3, .d (.one (.v (.int .i64 0)))), (4, .d (.one (.v (.int .i64 (if i ≤ k then (-1 : Int) else (k : Int)))))), (5, .d (.one (.v (.int .i64 ((i : Nat) : Int)))))], [(2, .box 27 ([.v (.bool false), .v (.slice none 0 0), .v (.bool false), .v (.slice none 0 0)]))]⟩
  refine cSeq ?_
  refine cSeq ?_
  by_cases hik : i ≤ k
  · skip
    refine cView 4 (.d (.one (.v (.int .i64 (-1))))) rfl (le_int (if_pos hik)) ?_
    refine cReg ?_
    refine mV hTT _ rfl ?_
    refine mV hTT _ rfl ?_
    refine mX (.d (.one (.v (.int .i64 (ByteArray.size b : Int))))) (xLen (b := b) rfl rfl rfl rfl Try.underlying9 rfl) ?_
    refine mV hTT (.d (.one (.v (.bool true)))) (evb (decide_eq_true (by omega))) ?_
    refine mV hTT _ rfl ?_
    refine mV hTT _ rfl ?_
    refine mV hTT (.d (.one (.v (.bool true)))) rfl ?_
    refine mV hTT _ rfl ?_
    refine mNil ?_
    refine tN ?_
    refine cT rfl ?_
    refine cSkip ?_
    refine tN ?_
    refine cSeq ?_
    refine cBlock ?_
    refine cSeq ?_
    by_cases hieq : i = k
    · skip
      refine cReg ?_
      refine mV hTT _ rfl ?_
      refine mV hTT _ rfl ?_
      refine mX (.d (.one (.v (.int .u8 (sb b i : Int))))) (xIx (b := b) (z := ((i : Nat) : Int)) rfl Try.underlying9 rfl rfl (by omega) (by omega)) ?_
      refine mV hTT (.d (.one (.v (.bool true)))) (evb (by rw [hieq, hk2]; rfl)) ?_
      refine mNil ?_
      refine tN ?_
      refine cT rfl ?_
      refine cReg ?_
      refine mV hTT _ rfl ?_
      refine mV hTT _ rfl ?_
      refine mNil ?_
      refine bN ?_
      refine tN ?_
      refine cReg ?_
      refine mV hTT _ rfl ?_
      refine mV hTT (.d (.one (.v (.int .i64 (IntKind.i64.wrap (((i : Nat) : Int) + 1)))))) rfl ?_
      refine mV hTT _ rfl ?_
      refine mNil ?_
      exact ⟨(i + 1), by omega, by omega, wk (sl := [(0, .d (.one (.v (.string b)))), (2, .ptr 2 0), (3, .d (.one (.v (.int .i64 0)))), (4, .d (.one (.v (.int .i64 (if (i + 1) ≤ k then (-1 : Int) else (k : Int)))))), (5, .d (.one (.v (.int .i64 (((i + 1) : Nat) : Int)))))]) (hp := [(2, .box 27 ([.v (.bool false), .v (.slice none 0 0), .v (.bool false), .v (.slice none 0 0)]))]) rfl ⟨hs rfl, hs rfl, hs rfl, hs' rfl (le_int (by rw [if_neg (by omega), hieq])), hs' rfl (le_int ((wr64 (by omega) (by omega)).trans (by omega))), trivial⟩ ⟨ho rfl, trivial⟩ rfl⟩
    · skip
      refine cReg ?_
      refine mV hTT _ rfl ?_
      refine mV hTT _ rfl ?_
      refine mX (.d (.one (.v (.int .u8 (sb b i : Int))))) (xIx (b := b) (z := ((i : Nat) : Int)) rfl Try.underlying9 rfl rfl (by omega) (by omega)) ?_
      refine mV hTT (.d (.one (.v (.bool false)))) (evb (beq_eq_false_iff_ne.2 fun e => hk1 i (by omega) (by omega))) ?_
      refine mNil ?_
      refine tN ?_
      refine cF rfl ?_
      refine cSkip ?_
      refine bN ?_
      refine tN ?_
      refine cReg ?_
      refine mV hTT _ rfl ?_
      refine mV hTT (.d (.one (.v (.int .i64 (IntKind.i64.wrap (((i : Nat) : Int) + 1)))))) rfl ?_
      refine mV hTT _ rfl ?_
      refine mNil ?_
      exact ⟨(i + 1), by omega, by omega, wk (sl := [(0, .d (.one (.v (.string b)))), (2, .ptr 2 0), (3, .d (.one (.v (.int .i64 0)))), (4, .d (.one (.v (.int .i64 (if (i + 1) ≤ k then (-1 : Int) else (k : Int)))))), (5, .d (.one (.v (.int .i64 (((i + 1) : Nat) : Int)))))]) (hp := [(2, .box 27 ([.v (.bool false), .v (.slice none 0 0), .v (.bool false), .v (.slice none 0 0)]))]) rfl ⟨hs rfl, hs rfl, hs rfl, hs' rfl (le_int (if_pos (by omega)).symm), hs' rfl (le_int ((wr64 (by omega) (by omega)).trans (by omega))), trivial⟩ ⟨ho rfl, trivial⟩ rfl⟩
  · skip
    have hie : i = k + 1 := by omega
    refine cView 4 (.d (.one (.v (.int .i64 (k : Int))))) rfl (le_int (if_neg hik)) ?_
    by_cases hks : k + 1 < b.size
    · skip
      refine cReg ?_
      refine mV hTT _ rfl ?_
      refine mV hTT _ rfl ?_
      refine mX (.d (.one (.v (.int .i64 (ByteArray.size b : Int))))) (xLen (b := b) rfl rfl rfl rfl Try.underlying9 rfl) ?_
      refine mV hTT (.d (.one (.v (.bool true)))) (evb (decide_eq_true (by omega))) ?_
      refine mV hTT _ rfl ?_
      refine mV hTT _ rfl ?_
      refine mV hTT (.d (.one (.v (.bool false)))) (evb (decide_eq_false (by omega))) ?_
      refine mV hTT _ rfl ?_
      refine mNil ?_
      refine tN ?_
      refine cF rfl ?_
      refine cExit ?_
      refine tE ?_
      refine tE ?_
      refine bE ?_
      refine tN ?_
      refine cSeq ?_
      refine cSeq ?_
      refine cReg ?_
      refine mV hTT _ rfl ?_
      refine mV hTT (.d (.one (.v (.bool false)))) (evb (decide_eq_false (by omega))) ?_
      refine mNil ?_
      refine tN ?_
      refine cF rfl ?_
      refine cSkip ?_
      refine tN ?_
      refine cSeq ?_
      refine cReg ?_
      refine mV hTT _ rfl ?_
      refine mV hTT _ rfl ?_
      refine mX (.d (.one (.v (.string (ByteArray.extract b 0 k))))) (xSl (b := b) (l' := 0) (h' := k) rfl Try.underlying9 rfl rfl (bndN rfl) (by omega) (by omega)) ?_
      refine mC0 (aDParse (b := (ByteArray.extract b 0 k)) hl) rfl rfl rfl ?_
      refine mV hTT _ rfl ?_
      refine mV hTT _ rfl ?_
      refine mV hTT _ rfl ?_
      refine mN hTT (.box 24 ([.v (.bool false), .v (.slice none 0 0)])) rfl rfl rfl ?_
      refine mS hTT 8 (.box 24 (zn 1200 (pvl (ByteArray.extract b 0 k)))) rfl ?_
      refine mV hTT _ rfl ?_
      refine mNil ?_
      refine tN ?_
      refine cSeq ?_
      refine cSeq ?_
      refine cReg ?_
      refine mV hTT _ rfl ?_
      refine mV hTT (.d (.one (.v (.bool false)))) rfl ?_
      refine mNil ?_
      refine tN ?_
      refine cF rfl ?_
      refine cSkip ?_
      refine tN ?_
      refine cSeq ?_
      refine cSeq ?_
      refine cReg ?_
      refine mV hTT _ rfl ?_
      refine mV hTT (.d (.one (.v (.int .i64 ((k + 1 : Nat) : Int))))) (evi ((wr64 (by omega) (by omega)).trans (by omega))) ?_
      refine mV hTT _ rfl ?_
      refine mX (.d (.one (.v (.int .i64 (ByteArray.size b : Int))))) (xLen (b := b) rfl rfl rfl rfl Try.underlying9 rfl) ?_
      refine mV hTT (.d (.one (.v (.bool true)))) (evb (decide_eq_true (by omega))) ?_
      refine mV hTT _ rfl ?_
      refine mV hTT _ rfl ?_
      refine mV hTT _ rfl ?_
      refine mV hTT (.d (.one (.v (.int .i64 ((k + 1 : Nat) : Int))))) (evi ((wr64 (by omega) (by omega)).trans (by omega))) ?_
      refine mX (.d (.one (.v (.int .u8 (sb b (k + 1) : Int))))) (xIx (b := b) (z := ((k + 1 : Nat) : Int)) rfl Try.underlying9 rfl rfl (by omega) (by omega)) ?_
      refine mV hTT (.d (.one (.v (.bool false)))) (evb (beq_eq_false_iff_ne.2 fun e => hne (by omega))) ?_
      refine mV hTT _ rfl ?_
      refine mNil ?_
      refine tN ?_
      refine cF rfl ?_
      refine cSkip ?_
      refine tN ?_
      refine cSeq ?_
      refine cReg ?_
      refine mV hTT _ rfl ?_
      refine mV hTT _ rfl ?_
      refine mV hTT (.d (.one (.v (.int .i64 ((k + 1 : Nat) : Int))))) (evi ((wr64 (by omega) (by omega)).trans (by omega))) ?_
      refine mX (.d (.one (.v (.string (ByteArray.extract b (k + 1) (ByteArray.size b)))))) (xSl (b := b) (l' := (k + 1)) (h' := (ByteArray.size b)) rfl Try.underlying9 rfl (bndN rfl) rfl (by omega) (Nat.le_refl _)) ?_
      refine mC0 (aDParse (b := (ByteArray.extract b (k + 1) (ByteArray.size b))) hr) rfl rfl rfl ?_
      refine mV hTT _ rfl ?_
      refine mV hTT _ rfl ?_
      refine mV hTT _ rfl ?_
      refine mN hTT (.box 24 ([.v (.bool false), .v (.slice none 0 0)])) rfl rfl rfl ?_
      refine mS hTT 10 (.box 24 (zn 1200 (pvl (ByteArray.extract b (k + 1) (ByteArray.size b))))) rfl ?_
      refine mV hTT _ rfl ?_
      refine mNil ?_
      refine tN ?_
      refine cSeq ?_
      refine cSeq ?_
      refine cReg ?_
      refine mV hTT _ rfl ?_
      refine mV hTT (.d (.one (.v (.bool false)))) rfl ?_
      refine mNil ?_
      refine tN ?_
      refine cF rfl ?_
      refine cSkip ?_
      refine tN ?_
      refine cSeq ?_
      refine cReg ?_
      refine mV hTT (.d (.agg (zn 1200 (pvl (ByteArray.extract b 0 k))))) rfl ?_
      refine mV hTT (.d (.agg (zn 1200 (pvl (ByteArray.extract b (k + 1) (ByteArray.size b)))))) rfl ?_
      refine mC0 (aTMake0 (isz 1200 (pvl (ByteArray.extract b 0 k))) (isz 1200 (pvl (ByteArray.extract b (k + 1) (ByteArray.size b)))) hd (by decide)) rfl rfl rfl ?_
      refine mV hTT _ rfl ?_
      refine mV hTT _ rfl ?_
      refine mS hTT 2 (.box 27 ([.v (.bool false), .v (.slice none 0 0), .v (.bool false), .v (.slice none 0 0)])) rfl ?_
      refine mV hTT _ rfl ?_
      refine mNil ?_
      refine tN ?_
      refine cRet ?_
      exact rQ rfl (AV.le.rfl)
    · skip
      refine cReg ?_
      refine mV hTT _ rfl ?_
      refine mV hTT _ rfl ?_
      refine mX (.d (.one (.v (.int .i64 (ByteArray.size b : Int))))) (xLen (b := b) rfl rfl rfl rfl Try.underlying9 rfl) ?_
      refine mV hTT (.d (.one (.v (.bool false)))) (evb (decide_eq_false (by omega))) ?_
      refine mV hTT _ rfl ?_
      refine mG rfl rfl ?_
      refine mG rfl rfl ?_
      refine mV hTT _ rfl ?_
      refine mNil ?_
      refine tN ?_
      refine cF rfl ?_
      refine cExit ?_
      refine tE ?_
      refine tE ?_
      refine bE ?_
      refine tN ?_
      refine cSeq ?_
      refine cSeq ?_
      refine cReg ?_
      refine mV hTT _ rfl ?_
      refine mV hTT (.d (.one (.v (.bool false)))) (evb (decide_eq_false (by omega))) ?_
      refine mNil ?_
      refine tN ?_
      refine cF rfl ?_
      refine cSkip ?_
      refine tN ?_
      refine cSeq ?_
      refine cReg ?_
      refine mV hTT _ rfl ?_
      refine mV hTT _ rfl ?_
      refine mX (.d (.one (.v (.string (ByteArray.extract b 0 k))))) (xSl (b := b) (l' := 0) (h' := k) rfl Try.underlying9 rfl rfl (bndN rfl) (by omega) (by omega)) ?_
      refine mC0 (aDParse (b := (ByteArray.extract b 0 k)) hl) rfl rfl rfl ?_
      refine mV hTT _ rfl ?_
      refine mV hTT _ rfl ?_
      refine mV hTT _ rfl ?_
      refine mN hTT (.box 24 ([.v (.bool false), .v (.slice none 0 0)])) rfl rfl rfl ?_
      refine mS hTT 8 (.box 24 (zn 1200 (pvl (ByteArray.extract b 0 k)))) rfl ?_
      refine mV hTT _ rfl ?_
      refine mNil ?_
      refine tN ?_
      refine cSeq ?_
      refine cSeq ?_
      refine cReg ?_
      refine mV hTT _ rfl ?_
      refine mV hTT (.d (.one (.v (.bool false)))) rfl ?_
      refine mNil ?_
      refine tN ?_
      refine cF rfl ?_
      refine cSkip ?_
      refine tN ?_
      refine cSeq ?_
      refine cSeq ?_
      refine cReg ?_
      refine mV hTT _ rfl ?_
      refine mV hTT (.d (.one (.v (.int .i64 ((k + 1 : Nat) : Int))))) (evi ((wr64 (by omega) (by omega)).trans (by omega))) ?_
      refine mV hTT _ rfl ?_
      refine mX (.d (.one (.v (.int .i64 (ByteArray.size b : Int))))) (xLen (b := b) rfl rfl rfl rfl Try.underlying9 rfl) ?_
      refine mV hTT (.d (.one (.v (.bool true)))) (evb (decide_eq_true (by omega))) ?_
      refine mV hTT _ rfl ?_
      refine mV hTT _ rfl ?_
      refine mV hTT _ rfl ?_
      refine mV hTT (.d (.one (.v (.int .i64 ((k + 1 : Nat) : Int))))) (evi ((wr64 (by omega) (by omega)).trans (by omega))) ?_
      refine mX (.d (.one (.v (.int .u8 (sb b (k + 1) : Int))))) (xIx (b := b) (z := ((k + 1 : Nat) : Int)) rfl Try.underlying9 rfl rfl (by omega) (by omega)) ?_
      refine mV hTT (.d (.one (.v (.bool false)))) (evb (beq_eq_false_iff_ne.2 fun e => hne (by omega))) ?_
      refine mV hTT _ rfl ?_
      refine mNil ?_
      refine tN ?_
      refine cF rfl ?_
      refine cSkip ?_
      refine tN ?_
      refine cSeq ?_
      refine cReg ?_
      refine mV hTT _ rfl ?_
      refine mV hTT _ rfl ?_
      refine mV hTT (.d (.one (.v (.int .i64 ((k + 1 : Nat) : Int))))) (evi ((wr64 (by omega) (by omega)).trans (by omega))) ?_
      refine mX (.d (.one (.v (.string (ByteArray.extract b (k + 1) (ByteArray.size b)))))) (xSl (b := b) (l' := (k + 1)) (h' := (ByteArray.size b)) rfl Try.underlying9 rfl (bndN rfl) rfl (by omega) (Nat.le_refl _)) ?_
      refine mC0 (aDParse (b := (ByteArray.extract b (k + 1) (ByteArray.size b))) hr) rfl rfl rfl ?_
      refine mV hTT _ rfl ?_
      refine mV hTT _ rfl ?_
      refine mV hTT _ rfl ?_
      refine mN hTT (.box 24 ([.v (.bool false), .v (.slice none 0 0)])) rfl rfl rfl ?_
      refine mS hTT 10 (.box 24 (zn 1200 (pvl (ByteArray.extract b (k + 1) (ByteArray.size b))))) rfl ?_
      refine mV hTT _ rfl ?_
      refine mNil ?_
      refine tN ?_
      refine cSeq ?_
      refine cSeq ?_
      refine cReg ?_
      refine mV hTT _ rfl ?_
      refine mV hTT (.d (.one (.v (.bool false)))) rfl ?_
      refine mNil ?_
      refine tN ?_
      refine cF rfl ?_
      refine cSkip ?_
      refine tN ?_
      refine cSeq ?_
      refine cReg ?_
      refine mV hTT (.d (.agg (zn 1200 (pvl (ByteArray.extract b 0 k))))) rfl ?_
      refine mV hTT (.d (.agg (zn 1200 (pvl (ByteArray.extract b (k + 1) (ByteArray.size b)))))) rfl ?_
      refine mC0 (aTMake0 (isz 1200 (pvl (ByteArray.extract b 0 k))) (isz 1200 (pvl (ByteArray.extract b (k + 1) (ByteArray.size b)))) hd (by decide)) rfl rfl rfl ?_
      refine mV hTT _ rfl ?_
      refine mV hTT _ rfl ?_
      refine mS hTT 2 (.box 27 ([.v (.bool false), .v (.slice none 0 0), .v (.bool false), .v (.slice none 0 0)])) rfl ?_
      refine mV hTT _ rfl ?_
      refine mNil ?_
      refine tN ?_
      refine cRet ?_
      exact rQ rfl (AV.le.rfl)

set_option maxRecDepth 100000 in
set_option maxHeartbeats 4000000 in
theorem aTPBadL {b : ByteArray} {k : Nat} (hk : k < b.size) (hb : b.size ≤ 1000000) (hk1 : ∀ i, i < k → sb b i ≠ 47) (hk2 : sb b k = 47) (hl : ¬ okT (ByteArray.extract b 0 k)) : ACall Try.prog 24 [.one (.v (.string b))] (.tup [.agg [.v (.bool false), .v (.slice none 0 0), .v (.bool false), .v (.slice none 0 0)], .one (.v (.int .i64 4))]) := by
  refine acallN hTT 80 [.cell 2 27, .tmp 3] Try.func24 rfl rfl rfl rfl rfl ?_
  refine cSeq ?_
  refine cReg ?_
  refine mN hTT (.box 27 ([.v (.bool false), .v (.slice none 0 0), .v (.bool false), .v (.slice none 0 0)])) rfl rfl rfl ?_
  refine mV hTT _ rfl ?_
  refine mNil ?_
  refine tN ?_
  refine cSeq ?_
  refine cReg ?_
  refine mV hTT _ rfl ?_
  refine mNil ?_
  refine tN ?_
  refine cSeq ?_
  refine cSeq ?_
  refine cReg ?_
  refine mV hTT _ rfl ?_
  refine mNil ?_
  refine tN ?_
  refine cBlock ?_
  refine cLoop (ι := Nat) (fun (i : Nat) => ⟨80, [(0, .d (.one (.v (.string b)))), (2, .ptr 2 0), (3, .d (.one (.v (.int .i64 0)))), (4, .d (.one (.v (.int .i64 (if i ≤ k then (-1 : Int) else (k : Int)))))), (5, .d (.one (.v (.int .i64 ((i : Nat) : Int)))))], [(2, .box 27 ([.v (.bool false), .v (.slice none 0 0), .v (.bool false), .v (.slice none 0 0)]))]⟩) (fun (i : Nat) => i ≤ k + 1) (fun (i : Nat) => k + 1 - i) 0 (Nat.zero_le _) (wk (sl := [(0, .d (.one (.v (.string b)))), (2, .ptr 2 0), (3, .d (.one (.v (.int .i64 0)))), (4, .d (.one (.v (.int .i64 (if 0 ≤ k then (-1 : Int) else (k : Int)))))), (5, .d (.one (.v (.int .i64 ((0 : Nat) : Int)))))]) (hp := [(2, .box 27 ([.v (.bool false), .v (.slice none 0 0), .v (.bool false), .v (.slice none 0 0)]))]) rfl ⟨hs rfl, hs rfl, hs rfl, hs' rfl (le_int (if_pos (Nat.zero_le _)).symm), hs' rfl (le_int rfl), trivial⟩ ⟨ho rfl, trivial⟩ rfl) ?_
  rintro i hI
  have hi : i ≤ k + 1 := hI
  show AW Try.prog _ _ ⟨80, [(0, .d (.one (.v (.string b)))), (2, .ptr 2 0), (3, .d (.one (.v (.int .i64 0)))), (4, .d (.one (.v (.int .i64 (if i ≤ k then (-1 : Int) else (k : Int)))))), (5, .d (.one (.v (.int .i64 ((i : Nat) : Int)))))], [(2, .box 27 ([.v (.bool false), .v (.slice none 0 0), .v (.bool false), .v (.slice none 0 0)]))]⟩
  refine cSeq ?_
  refine cSeq ?_
  by_cases hik : i ≤ k
  · skip
    refine cView 4 (.d (.one (.v (.int .i64 (-1))))) rfl (le_int (if_pos hik)) ?_
    refine cReg ?_
    refine mV hTT _ rfl ?_
    refine mV hTT _ rfl ?_
    refine mX (.d (.one (.v (.int .i64 (ByteArray.size b : Int))))) (xLen (b := b) rfl rfl rfl rfl Try.underlying9 rfl) ?_
    refine mV hTT (.d (.one (.v (.bool true)))) (evb (decide_eq_true (by omega))) ?_
    refine mV hTT _ rfl ?_
    refine mV hTT _ rfl ?_
    refine mV hTT (.d (.one (.v (.bool true)))) rfl ?_
    refine mV hTT _ rfl ?_
    refine mNil ?_
    refine tN ?_
    refine cT rfl ?_
    refine cSkip ?_
    refine tN ?_
    refine cSeq ?_
    refine cBlock ?_
    refine cSeq ?_
    by_cases hieq : i = k
    · skip
      refine cReg ?_
      refine mV hTT _ rfl ?_
      refine mV hTT _ rfl ?_
      refine mX (.d (.one (.v (.int .u8 (sb b i : Int))))) (xIx (b := b) (z := ((i : Nat) : Int)) rfl Try.underlying9 rfl rfl (by omega) (by omega)) ?_
      refine mV hTT (.d (.one (.v (.bool true)))) (evb (by rw [hieq, hk2]; rfl)) ?_
      refine mNil ?_
      refine tN ?_
      refine cT rfl ?_
      refine cReg ?_
      refine mV hTT _ rfl ?_
      refine mV hTT _ rfl ?_
      refine mNil ?_
      refine bN ?_
      refine tN ?_
      refine cReg ?_
      refine mV hTT _ rfl ?_
      refine mV hTT (.d (.one (.v (.int .i64 (IntKind.i64.wrap (((i : Nat) : Int) + 1)))))) rfl ?_
      refine mV hTT _ rfl ?_
      refine mNil ?_
      exact ⟨(i + 1), by omega, by omega, wk (sl := [(0, .d (.one (.v (.string b)))), (2, .ptr 2 0), (3, .d (.one (.v (.int .i64 0)))), (4, .d (.one (.v (.int .i64 (if (i + 1) ≤ k then (-1 : Int) else (k : Int)))))), (5, .d (.one (.v (.int .i64 (((i + 1) : Nat) : Int)))))]) (hp := [(2, .box 27 ([.v (.bool false), .v (.slice none 0 0), .v (.bool false), .v (.slice none 0 0)]))]) rfl ⟨hs rfl, hs rfl, hs rfl, hs' rfl (le_int (by rw [if_neg (by omega), hieq])), hs' rfl (le_int ((wr64 (by omega) (by omega)).trans (by omega))), trivial⟩ ⟨ho rfl, trivial⟩ rfl⟩
    · skip
      refine cReg ?_
      refine mV hTT _ rfl ?_
      refine mV hTT _ rfl ?_
      refine mX (.d (.one (.v (.int .u8 (sb b i : Int))))) (xIx (b := b) (z := ((i : Nat) : Int)) rfl Try.underlying9 rfl rfl (by omega) (by omega)) ?_
      refine mV hTT (.d (.one (.v (.bool false)))) (evb (beq_eq_false_iff_ne.2 fun e => hk1 i (by omega) (by omega))) ?_
      refine mNil ?_
      refine tN ?_
      refine cF rfl ?_
      refine cSkip ?_
      refine bN ?_
      refine tN ?_
      refine cReg ?_
      refine mV hTT _ rfl ?_
      refine mV hTT (.d (.one (.v (.int .i64 (IntKind.i64.wrap (((i : Nat) : Int) + 1)))))) rfl ?_
      refine mV hTT _ rfl ?_
      refine mNil ?_
      exact ⟨(i + 1), by omega, by omega, wk (sl := [(0, .d (.one (.v (.string b)))), (2, .ptr 2 0), (3, .d (.one (.v (.int .i64 0)))), (4, .d (.one (.v (.int .i64 (if (i + 1) ≤ k then (-1 : Int) else (k : Int)))))), (5, .d (.one (.v (.int .i64 (((i + 1) : Nat) : Int)))))]) (hp := [(2, .box 27 ([.v (.bool false), .v (.slice none 0 0), .v (.bool false), .v (.slice none 0 0)]))]) rfl ⟨hs rfl, hs rfl, hs rfl, hs' rfl (le_int (if_pos (by omega)).symm), hs' rfl (le_int ((wr64 (by omega) (by omega)).trans (by omega))), trivial⟩ ⟨ho rfl, trivial⟩ rfl⟩
  · skip
    have hie : i = k + 1 := by omega
    refine cView 4 (.d (.one (.v (.int .i64 (k : Int))))) rfl (le_int (if_neg hik)) ?_
    by_cases hks : k + 1 < b.size
    · skip
      refine cReg ?_
      refine mV hTT _ rfl ?_
      refine mV hTT _ rfl ?_
      refine mX (.d (.one (.v (.int .i64 (ByteArray.size b : Int))))) (xLen (b := b) rfl rfl rfl rfl Try.underlying9 rfl) ?_
      refine mV hTT (.d (.one (.v (.bool true)))) (evb (decide_eq_true (by omega))) ?_
      refine mV hTT _ rfl ?_
      refine mV hTT _ rfl ?_
      refine mV hTT (.d (.one (.v (.bool false)))) (evb (decide_eq_false (by omega))) ?_
      refine mV hTT _ rfl ?_
      refine mNil ?_
      refine tN ?_
      refine cF rfl ?_
      refine cExit ?_
      refine tE ?_
      refine tE ?_
      refine bE ?_
      refine tN ?_
      refine cSeq ?_
      refine cSeq ?_
      refine cReg ?_
      refine mV hTT _ rfl ?_
      refine mV hTT (.d (.one (.v (.bool false)))) (evb (decide_eq_false (by omega))) ?_
      refine mNil ?_
      refine tN ?_
      refine cF rfl ?_
      refine cSkip ?_
      refine tN ?_
      refine cSeq ?_
      refine cReg ?_
      refine mV hTT _ rfl ?_
      refine mV hTT _ rfl ?_
      refine mX (.d (.one (.v (.string (ByteArray.extract b 0 k))))) (xSl (b := b) (l' := 0) (h' := k) rfl Try.underlying9 rfl rfl (bndN rfl) (by omega) (by omega)) ?_
      refine mC0 (aDBad (b := (ByteArray.extract b 0 k)) hl) rfl rfl rfl ?_
      refine mV hTT _ rfl ?_
      refine mV hTT _ rfl ?_
      refine mV hTT _ rfl ?_
      refine mN hTT (.box 24 ([.v (.bool false), .v (.slice none 0 0)])) rfl rfl rfl ?_
      refine mS hTT 8 (.box 24 ([.v (.bool false), .v (.slice none 0 0)])) rfl ?_
      refine mV hTT _ rfl ?_
      refine mNil ?_
      refine tN ?_
      refine cSeq ?_
      refine cSeq ?_
      refine cReg ?_
      refine mV hTT _ rfl ?_
      refine mV hTT (.d (.one (.v (.bool true)))) rfl ?_
      refine mNil ?_
      refine tN ?_
      refine cT rfl ?_
      refine cSeq ?_
      refine cReg ?_
      refine mV hTT (.d (.agg ([.v (.bool false), .v (.slice none 0 0), .v (.bool false), .v (.slice none 0 0)]))) rfl ?_
      refine mV hTT _ rfl ?_
      refine mS hTT 2 (.box 27 ([.v (.bool false), .v (.slice none 0 0), .v (.bool false), .v (.slice none 0 0)])) rfl ?_
      refine mV hTT _ rfl ?_
      refine mNil ?_
      refine tN ?_
      refine cRet ?_
      refine tR ?_
      exact rQ rfl (AV.le.rfl)
    · skip
      refine cReg ?_
      refine mV hTT _ rfl ?_
      refine mV hTT _ rfl ?_
      refine mX (.d (.one (.v (.int .i64 (ByteArray.size b : Int))))) (xLen (b := b) rfl rfl rfl rfl Try.underlying9 rfl) ?_
      refine mV hTT (.d (.one (.v (.bool false)))) (evb (decide_eq_false (by omega))) ?_
      refine mV hTT _ rfl ?_
      refine mG rfl rfl ?_
      refine mG rfl rfl ?_
      refine mV hTT _ rfl ?_
      refine mNil ?_
      refine tN ?_
      refine cF rfl ?_
      refine cExit ?_
      refine tE ?_
      refine tE ?_
      refine bE ?_
      refine tN ?_
      refine cSeq ?_
      refine cSeq ?_
      refine cReg ?_
      refine mV hTT _ rfl ?_
      refine mV hTT (.d (.one (.v (.bool false)))) (evb (decide_eq_false (by omega))) ?_
      refine mNil ?_
      refine tN ?_
      refine cF rfl ?_
      refine cSkip ?_
      refine tN ?_
      refine cSeq ?_
      refine cReg ?_
      refine mV hTT _ rfl ?_
      refine mV hTT _ rfl ?_
      refine mX (.d (.one (.v (.string (ByteArray.extract b 0 k))))) (xSl (b := b) (l' := 0) (h' := k) rfl Try.underlying9 rfl rfl (bndN rfl) (by omega) (by omega)) ?_
      refine mC0 (aDBad (b := (ByteArray.extract b 0 k)) hl) rfl rfl rfl ?_
      refine mV hTT _ rfl ?_
      refine mV hTT _ rfl ?_
      refine mV hTT _ rfl ?_
      refine mN hTT (.box 24 ([.v (.bool false), .v (.slice none 0 0)])) rfl rfl rfl ?_
      refine mS hTT 8 (.box 24 ([.v (.bool false), .v (.slice none 0 0)])) rfl ?_
      refine mV hTT _ rfl ?_
      refine mNil ?_
      refine tN ?_
      refine cSeq ?_
      refine cSeq ?_
      refine cReg ?_
      refine mV hTT _ rfl ?_
      refine mV hTT (.d (.one (.v (.bool true)))) rfl ?_
      refine mNil ?_
      refine tN ?_
      refine cT rfl ?_
      refine cSeq ?_
      refine cReg ?_
      refine mV hTT (.d (.agg ([.v (.bool false), .v (.slice none 0 0), .v (.bool false), .v (.slice none 0 0)]))) rfl ?_
      refine mV hTT _ rfl ?_
      refine mS hTT 2 (.box 27 ([.v (.bool false), .v (.slice none 0 0), .v (.bool false), .v (.slice none 0 0)])) rfl ?_
      refine mV hTT _ rfl ?_
      refine mNil ?_
      refine tN ?_
      refine cRet ?_
      refine tR ?_
      exact rQ rfl (AV.le.rfl)

set_option maxRecDepth 100000 in
set_option maxHeartbeats 4000000 in
theorem aTPNeg {b : ByteArray} {k : Nat} (hk : k < b.size) (hb : b.size ≤ 1000000) (hk1 : ∀ i, i < k → sb b i ≠ 47) (hk2 : sb b k = 47) (hl : okT (ByteArray.extract b 0 k)) (hn : isneg (ByteArray.extract b (k + 1) (ByteArray.size b)) = true) : ACall Try.prog 24 [.one (.v (.string b))] (.tup [.agg [.v (.bool false), .v (.slice none 0 0), .v (.bool false), .v (.slice none 0 0)], .one (.v (.int .i64 4))]) := by
  obtain ⟨hks1, hne⟩ := neg_at hn
  refine acallN hTT 80 [.cell 2 27, .tmp 3] Try.func24 rfl rfl rfl rfl rfl ?_
  refine cSeq ?_
  refine cReg ?_
  refine mN hTT (.box 27 ([.v (.bool false), .v (.slice none 0 0), .v (.bool false), .v (.slice none 0 0)])) rfl rfl rfl ?_
  refine mV hTT _ rfl ?_
  refine mNil ?_
  refine tN ?_
  refine cSeq ?_
  refine cReg ?_
  refine mV hTT _ rfl ?_
  refine mNil ?_
  refine tN ?_
  refine cSeq ?_
  refine cSeq ?_
  refine cReg ?_
  refine mV hTT _ rfl ?_
  refine mNil ?_
  refine tN ?_
  refine cBlock ?_
  refine cLoop (ι := Nat) (fun (i : Nat) => ⟨80, [(0, .d (.one (.v (.string b)))), (2, .ptr 2 0), (3, .d (.one (.v (.int .i64 0)))), (4, .d (.one (.v (.int .i64 (if i ≤ k then (-1 : Int) else (k : Int)))))), (5, .d (.one (.v (.int .i64 ((i : Nat) : Int)))))], [(2, .box 27 ([.v (.bool false), .v (.slice none 0 0), .v (.bool false), .v (.slice none 0 0)]))]⟩) (fun (i : Nat) => i ≤ k + 1) (fun (i : Nat) => k + 1 - i) 0 (Nat.zero_le _) (wk (sl := [(0, .d (.one (.v (.string b)))), (2, .ptr 2 0), (3, .d (.one (.v (.int .i64 0)))), (4, .d (.one (.v (.int .i64 (if 0 ≤ k then (-1 : Int) else (k : Int)))))), (5, .d (.one (.v (.int .i64 ((0 : Nat) : Int)))))]) (hp := [(2, .box 27 ([.v (.bool false), .v (.slice none 0 0), .v (.bool false), .v (.slice none 0 0)]))]) rfl ⟨hs rfl, hs rfl, hs rfl, hs' rfl (le_int (if_pos (Nat.zero_le _)).symm), hs' rfl (le_int rfl), trivial⟩ ⟨ho rfl, trivial⟩ rfl) ?_
  rintro i hI
  have hi : i ≤ k + 1 := hI
  show AW Try.prog _ _ ⟨80, [(0, .d (.one (.v (.string b)))), (2, .ptr 2 0), (3, .d (.one (.v (.int .i64 0)))), (4, .d (.one (.v (.int .i64 (if i ≤ k then (-1 : Int) else (k : Int)))))), (5, .d (.one (.v (.int .i64 ((i : Nat) : Int)))))], [(2, .box 27 ([.v (.bool false), .v (.slice none 0 0), .v (.bool false), .v (.slice none 0 0)]))]⟩
  refine cSeq ?_
  refine cSeq ?_
  by_cases hik : i ≤ k
  · skip
    refine cView 4 (.d (.one (.v (.int .i64 (-1))))) rfl (le_int (if_pos hik)) ?_
    refine cReg ?_
    refine mV hTT _ rfl ?_
    refine mV hTT _ rfl ?_
    refine mX (.d (.one (.v (.int .i64 (ByteArray.size b : Int))))) (xLen (b := b) rfl rfl rfl rfl Try.underlying9 rfl) ?_
    refine mV hTT (.d (.one (.v (.bool true)))) (evb (decide_eq_true (by omega))) ?_
    refine mV hTT _ rfl ?_
    refine mV hTT _ rfl ?_
    refine mV hTT (.d (.one (.v (.bool true)))) rfl ?_
    refine mV hTT _ rfl ?_
    refine mNil ?_
    refine tN ?_
    refine cT rfl ?_
    refine cSkip ?_
    refine tN ?_
    refine cSeq ?_
    refine cBlock ?_
    refine cSeq ?_
    by_cases hieq : i = k
    · skip
      refine cReg ?_
      refine mV hTT _ rfl ?_
      refine mV hTT _ rfl ?_
      refine mX (.d (.one (.v (.int .u8 (sb b i : Int))))) (xIx (b := b) (z := ((i : Nat) : Int)) rfl Try.underlying9 rfl rfl (by omega) (by omega)) ?_
      refine mV hTT (.d (.one (.v (.bool true)))) (evb (by rw [hieq, hk2]; rfl)) ?_
      refine mNil ?_
      refine tN ?_
      refine cT rfl ?_
      refine cReg ?_
      refine mV hTT _ rfl ?_
      refine mV hTT _ rfl ?_
      refine mNil ?_
      refine bN ?_
      refine tN ?_
      refine cReg ?_
      refine mV hTT _ rfl ?_
      refine mV hTT (.d (.one (.v (.int .i64 (IntKind.i64.wrap (((i : Nat) : Int) + 1)))))) rfl ?_
      refine mV hTT _ rfl ?_
      refine mNil ?_
      exact ⟨(i + 1), by omega, by omega, wk (sl := [(0, .d (.one (.v (.string b)))), (2, .ptr 2 0), (3, .d (.one (.v (.int .i64 0)))), (4, .d (.one (.v (.int .i64 (if (i + 1) ≤ k then (-1 : Int) else (k : Int)))))), (5, .d (.one (.v (.int .i64 (((i + 1) : Nat) : Int)))))]) (hp := [(2, .box 27 ([.v (.bool false), .v (.slice none 0 0), .v (.bool false), .v (.slice none 0 0)]))]) rfl ⟨hs rfl, hs rfl, hs rfl, hs' rfl (le_int (by rw [if_neg (by omega), hieq])), hs' rfl (le_int ((wr64 (by omega) (by omega)).trans (by omega))), trivial⟩ ⟨ho rfl, trivial⟩ rfl⟩
    · skip
      refine cReg ?_
      refine mV hTT _ rfl ?_
      refine mV hTT _ rfl ?_
      refine mX (.d (.one (.v (.int .u8 (sb b i : Int))))) (xIx (b := b) (z := ((i : Nat) : Int)) rfl Try.underlying9 rfl rfl (by omega) (by omega)) ?_
      refine mV hTT (.d (.one (.v (.bool false)))) (evb (beq_eq_false_iff_ne.2 fun e => hk1 i (by omega) (by omega))) ?_
      refine mNil ?_
      refine tN ?_
      refine cF rfl ?_
      refine cSkip ?_
      refine bN ?_
      refine tN ?_
      refine cReg ?_
      refine mV hTT _ rfl ?_
      refine mV hTT (.d (.one (.v (.int .i64 (IntKind.i64.wrap (((i : Nat) : Int) + 1)))))) rfl ?_
      refine mV hTT _ rfl ?_
      refine mNil ?_
      exact ⟨(i + 1), by omega, by omega, wk (sl := [(0, .d (.one (.v (.string b)))), (2, .ptr 2 0), (3, .d (.one (.v (.int .i64 0)))), (4, .d (.one (.v (.int .i64 (if (i + 1) ≤ k then (-1 : Int) else (k : Int)))))), (5, .d (.one (.v (.int .i64 (((i + 1) : Nat) : Int)))))]) (hp := [(2, .box 27 ([.v (.bool false), .v (.slice none 0 0), .v (.bool false), .v (.slice none 0 0)]))]) rfl ⟨hs rfl, hs rfl, hs rfl, hs' rfl (le_int (if_pos (by omega)).symm), hs' rfl (le_int ((wr64 (by omega) (by omega)).trans (by omega))), trivial⟩ ⟨ho rfl, trivial⟩ rfl⟩
  · skip
    have hie : i = k + 1 := by omega
    refine cView 4 (.d (.one (.v (.int .i64 (k : Int))))) rfl (le_int (if_neg hik)) ?_
    by_cases hks : k + 1 < b.size
    · skip
      refine cReg ?_
      refine mV hTT _ rfl ?_
      refine mV hTT _ rfl ?_
      refine mX (.d (.one (.v (.int .i64 (ByteArray.size b : Int))))) (xLen (b := b) rfl rfl rfl rfl Try.underlying9 rfl) ?_
      refine mV hTT (.d (.one (.v (.bool true)))) (evb (decide_eq_true (by omega))) ?_
      refine mV hTT _ rfl ?_
      refine mV hTT _ rfl ?_
      refine mV hTT (.d (.one (.v (.bool false)))) (evb (decide_eq_false (by omega))) ?_
      refine mV hTT _ rfl ?_
      refine mNil ?_
      refine tN ?_
      refine cF rfl ?_
      refine cExit ?_
      refine tE ?_
      refine tE ?_
      refine bE ?_
      refine tN ?_
      refine cSeq ?_
      refine cSeq ?_
      refine cReg ?_
      refine mV hTT _ rfl ?_
      refine mV hTT (.d (.one (.v (.bool false)))) (evb (decide_eq_false (by omega))) ?_
      refine mNil ?_
      refine tN ?_
      refine cF rfl ?_
      refine cSkip ?_
      refine tN ?_
      refine cSeq ?_
      refine cReg ?_
      refine mV hTT _ rfl ?_
      refine mV hTT _ rfl ?_
      refine mX (.d (.one (.v (.string (ByteArray.extract b 0 k))))) (xSl (b := b) (l' := 0) (h' := k) rfl Try.underlying9 rfl rfl (bndN rfl) (by omega) (by omega)) ?_
      refine mC0 (aDParse (b := (ByteArray.extract b 0 k)) hl) rfl rfl rfl ?_
      refine mV hTT _ rfl ?_
      refine mV hTT _ rfl ?_
      refine mV hTT _ rfl ?_
      refine mN hTT (.box 24 ([.v (.bool false), .v (.slice none 0 0)])) rfl rfl rfl ?_
      refine mS hTT 8 (.box 24 (zn 1200 (pvl (ByteArray.extract b 0 k)))) rfl ?_
      refine mV hTT _ rfl ?_
      refine mNil ?_
      refine tN ?_
      refine cSeq ?_
      refine cSeq ?_
      refine cReg ?_
      refine mV hTT _ rfl ?_
      refine mV hTT (.d (.one (.v (.bool false)))) rfl ?_
      refine mNil ?_
      refine tN ?_
      refine cF rfl ?_
      refine cSkip ?_
      refine tN ?_
      refine cSeq ?_
      refine cSeq ?_
      refine cReg ?_
      refine mV hTT _ rfl ?_
      refine mV hTT (.d (.one (.v (.int .i64 ((k + 1 : Nat) : Int))))) (evi ((wr64 (by omega) (by omega)).trans (by omega))) ?_
      refine mV hTT _ rfl ?_
      refine mX (.d (.one (.v (.int .i64 (ByteArray.size b : Int))))) (xLen (b := b) rfl rfl rfl rfl Try.underlying9 rfl) ?_
      refine mV hTT (.d (.one (.v (.bool true)))) (evb (decide_eq_true (by omega))) ?_
      refine mV hTT _ rfl ?_
      refine mV hTT _ rfl ?_
      refine mV hTT _ rfl ?_
      refine mV hTT (.d (.one (.v (.int .i64 ((k + 1 : Nat) : Int))))) (evi ((wr64 (by omega) (by omega)).trans (by omega))) ?_
      refine mX (.d (.one (.v (.int .u8 (sb b (k + 1) : Int))))) (xIx (b := b) (z := ((k + 1 : Nat) : Int)) rfl Try.underlying9 rfl rfl (by omega) (by omega)) ?_
      refine mV hTT (.d (.one (.v (.bool true)))) (evb (by rw [hne]; rfl)) ?_
      refine mV hTT _ rfl ?_
      refine mNil ?_
      refine tN ?_
      refine cT rfl ?_
      refine cSeq ?_
      refine cReg ?_
      refine mV hTT (.d (.agg ([.v (.bool false), .v (.slice none 0 0), .v (.bool false), .v (.slice none 0 0)]))) rfl ?_
      refine mS hTT 2 (.box 27 ([.v (.bool false), .v (.slice none 0 0), .v (.bool false), .v (.slice none 0 0)])) rfl ?_
      refine mV hTT _ rfl ?_
      refine mNil ?_
      refine tN ?_
      refine cRet ?_
      refine tR ?_
      exact rQ rfl (AV.le.rfl)
    · skip
      refine cReg ?_
      refine mV hTT _ rfl ?_
      refine mV hTT _ rfl ?_
      refine mX (.d (.one (.v (.int .i64 (ByteArray.size b : Int))))) (xLen (b := b) rfl rfl rfl rfl Try.underlying9 rfl) ?_
      refine mV hTT (.d (.one (.v (.bool false)))) (evb (decide_eq_false (by omega))) ?_
      refine mV hTT _ rfl ?_
      refine mG rfl rfl ?_
      refine mG rfl rfl ?_
      refine mV hTT _ rfl ?_
      refine mNil ?_
      refine tN ?_
      refine cF rfl ?_
      refine cExit ?_
      refine tE ?_
      refine tE ?_
      refine bE ?_
      refine tN ?_
      refine cSeq ?_
      refine cSeq ?_
      refine cReg ?_
      refine mV hTT _ rfl ?_
      refine mV hTT (.d (.one (.v (.bool false)))) (evb (decide_eq_false (by omega))) ?_
      refine mNil ?_
      refine tN ?_
      refine cF rfl ?_
      refine cSkip ?_
      refine tN ?_
      refine cSeq ?_
      refine cReg ?_
      refine mV hTT _ rfl ?_
      refine mV hTT _ rfl ?_
      refine mX (.d (.one (.v (.string (ByteArray.extract b 0 k))))) (xSl (b := b) (l' := 0) (h' := k) rfl Try.underlying9 rfl rfl (bndN rfl) (by omega) (by omega)) ?_
      refine mC0 (aDParse (b := (ByteArray.extract b 0 k)) hl) rfl rfl rfl ?_
      refine mV hTT _ rfl ?_
      refine mV hTT _ rfl ?_
      refine mV hTT _ rfl ?_
      refine mN hTT (.box 24 ([.v (.bool false), .v (.slice none 0 0)])) rfl rfl rfl ?_
      refine mS hTT 8 (.box 24 (zn 1200 (pvl (ByteArray.extract b 0 k)))) rfl ?_
      refine mV hTT _ rfl ?_
      refine mNil ?_
      refine tN ?_
      refine cSeq ?_
      refine cSeq ?_
      refine cReg ?_
      refine mV hTT _ rfl ?_
      refine mV hTT (.d (.one (.v (.bool false)))) rfl ?_
      refine mNil ?_
      refine tN ?_
      refine cF rfl ?_
      refine cSkip ?_
      refine tN ?_
      refine cSeq ?_
      refine cSeq ?_
      refine cReg ?_
      refine mV hTT _ rfl ?_
      refine mV hTT (.d (.one (.v (.int .i64 ((k + 1 : Nat) : Int))))) (evi ((wr64 (by omega) (by omega)).trans (by omega))) ?_
      refine mV hTT _ rfl ?_
      refine mX (.d (.one (.v (.int .i64 (ByteArray.size b : Int))))) (xLen (b := b) rfl rfl rfl rfl Try.underlying9 rfl) ?_
      refine mV hTT (.d (.one (.v (.bool true)))) (evb (decide_eq_true (by omega))) ?_
      refine mV hTT _ rfl ?_
      refine mV hTT _ rfl ?_
      refine mV hTT _ rfl ?_
      refine mV hTT (.d (.one (.v (.int .i64 ((k + 1 : Nat) : Int))))) (evi ((wr64 (by omega) (by omega)).trans (by omega))) ?_
      refine mX (.d (.one (.v (.int .u8 (sb b (k + 1) : Int))))) (xIx (b := b) (z := ((k + 1 : Nat) : Int)) rfl Try.underlying9 rfl rfl (by omega) (by omega)) ?_
      refine mV hTT (.d (.one (.v (.bool true)))) (evb (by rw [hne]; rfl)) ?_
      refine mV hTT _ rfl ?_
      refine mNil ?_
      refine tN ?_
      refine cT rfl ?_
      refine cSeq ?_
      refine cReg ?_
      refine mV hTT (.d (.agg ([.v (.bool false), .v (.slice none 0 0), .v (.bool false), .v (.slice none 0 0)]))) rfl ?_
      refine mS hTT 2 (.box 27 ([.v (.bool false), .v (.slice none 0 0), .v (.bool false), .v (.slice none 0 0)])) rfl ?_
      refine mV hTT _ rfl ?_
      refine mNil ?_
      refine tN ?_
      refine cRet ?_
      refine tR ?_
      exact rQ rfl (AV.le.rfl)

set_option maxRecDepth 100000 in
set_option maxHeartbeats 4000000 in
theorem aTPBadR {b : ByteArray} {k : Nat} (hk : k < b.size) (hb : b.size ≤ 1000000) (hk1 : ∀ i, i < k → sb b i ≠ 47) (hk2 : sb b k = 47) (hl : okT (ByteArray.extract b 0 k)) (hn : isneg (ByteArray.extract b (k + 1) (ByteArray.size b)) = false) (hr : ¬ okT (ByteArray.extract b (k + 1) (ByteArray.size b))) : ACall Try.prog 24 [.one (.v (.string b))] (.tup [.agg [.v (.bool false), .v (.slice none 0 0), .v (.bool false), .v (.slice none 0 0)], .one (.v (.int .i64 4))]) := by
  refine acallN hTT 80 [.cell 2 27, .tmp 3] Try.func24 rfl rfl rfl rfl rfl ?_
  refine cSeq ?_
  refine cReg ?_
  refine mN hTT (.box 27 ([.v (.bool false), .v (.slice none 0 0), .v (.bool false), .v (.slice none 0 0)])) rfl rfl rfl ?_
  refine mV hTT _ rfl ?_
  refine mNil ?_
  refine tN ?_
  refine cSeq ?_
  refine cReg ?_
  refine mV hTT _ rfl ?_
  refine mNil ?_
  refine tN ?_
  refine cSeq ?_
  refine cSeq ?_
  refine cReg ?_
  refine mV hTT _ rfl ?_
  refine mNil ?_
  refine tN ?_
  refine cBlock ?_
  refine cLoop (ι := Nat) (fun (i : Nat) => ⟨80, [(0, .d (.one (.v (.string b)))), (2, .ptr 2 0), (3, .d (.one (.v (.int .i64 0)))), (4, .d (.one (.v (.int .i64 (if i ≤ k then (-1 : Int) else (k : Int)))))), (5, .d (.one (.v (.int .i64 ((i : Nat) : Int)))))], [(2, .box 27 ([.v (.bool false), .v (.slice none 0 0), .v (.bool false), .v (.slice none 0 0)]))]⟩) (fun (i : Nat) => i ≤ k + 1) (fun (i : Nat) => k + 1 - i) 0 (Nat.zero_le _) (wk (sl := [(0, .d (.one (.v (.string b)))), (2, .ptr 2 0), (3, .d (.one (.v (.int .i64 0)))), (4, .d (.one (.v (.int .i64 (if 0 ≤ k then (-1 : Int) else (k : Int)))))), (5, .d (.one (.v (.int .i64 ((0 : Nat) : Int)))))]) (hp := [(2, .box 27 ([.v (.bool false), .v (.slice none 0 0), .v (.bool false), .v (.slice none 0 0)]))]) rfl ⟨hs rfl, hs rfl, hs rfl, hs' rfl (le_int (if_pos (Nat.zero_le _)).symm), hs' rfl (le_int rfl), trivial⟩ ⟨ho rfl, trivial⟩ rfl) ?_
  rintro i hI
  have hi : i ≤ k + 1 := hI
  show AW Try.prog _ _ ⟨80, [(0, .d (.one (.v (.string b)))), (2, .ptr 2 0), (3, .d (.one (.v (.int .i64 0)))), (4, .d (.one (.v (.int .i64 (if i ≤ k then (-1 : Int) else (k : Int)))))), (5, .d (.one (.v (.int .i64 ((i : Nat) : Int)))))], [(2, .box 27 ([.v (.bool false), .v (.slice none 0 0), .v (.bool false), .v (.slice none 0 0)]))]⟩
  refine cSeq ?_
  refine cSeq ?_
  by_cases hik : i ≤ k
  · skip
    refine cView 4 (.d (.one (.v (.int .i64 (-1))))) rfl (le_int (if_pos hik)) ?_
    refine cReg ?_
    refine mV hTT _ rfl ?_
    refine mV hTT _ rfl ?_
    refine mX (.d (.one (.v (.int .i64 (ByteArray.size b : Int))))) (xLen (b := b) rfl rfl rfl rfl Try.underlying9 rfl) ?_
    refine mV hTT (.d (.one (.v (.bool true)))) (evb (decide_eq_true (by omega))) ?_
    refine mV hTT _ rfl ?_
    refine mV hTT _ rfl ?_
    refine mV hTT (.d (.one (.v (.bool true)))) rfl ?_
    refine mV hTT _ rfl ?_
    refine mNil ?_
    refine tN ?_
    refine cT rfl ?_
    refine cSkip ?_
    refine tN ?_
    refine cSeq ?_
    refine cBlock ?_
    refine cSeq ?_
    by_cases hieq : i = k
    · skip
      refine cReg ?_
      refine mV hTT _ rfl ?_
      refine mV hTT _ rfl ?_
      refine mX (.d (.one (.v (.int .u8 (sb b i : Int))))) (xIx (b := b) (z := ((i : Nat) : Int)) rfl Try.underlying9 rfl rfl (by omega) (by omega)) ?_
      refine mV hTT (.d (.one (.v (.bool true)))) (evb (by rw [hieq, hk2]; rfl)) ?_
      refine mNil ?_
      refine tN ?_
      refine cT rfl ?_
      refine cReg ?_
      refine mV hTT _ rfl ?_
      refine mV hTT _ rfl ?_
      refine mNil ?_
      refine bN ?_
      refine tN ?_
      refine cReg ?_
      refine mV hTT _ rfl ?_
      refine mV hTT (.d (.one (.v (.int .i64 (IntKind.i64.wrap (((i : Nat) : Int) + 1)))))) rfl ?_
      refine mV hTT _ rfl ?_
      refine mNil ?_
      exact ⟨(i + 1), by omega, by omega, wk (sl := [(0, .d (.one (.v (.string b)))), (2, .ptr 2 0), (3, .d (.one (.v (.int .i64 0)))), (4, .d (.one (.v (.int .i64 (if (i + 1) ≤ k then (-1 : Int) else (k : Int)))))), (5, .d (.one (.v (.int .i64 (((i + 1) : Nat) : Int)))))]) (hp := [(2, .box 27 ([.v (.bool false), .v (.slice none 0 0), .v (.bool false), .v (.slice none 0 0)]))]) rfl ⟨hs rfl, hs rfl, hs rfl, hs' rfl (le_int (by rw [if_neg (by omega), hieq])), hs' rfl (le_int ((wr64 (by omega) (by omega)).trans (by omega))), trivial⟩ ⟨ho rfl, trivial⟩ rfl⟩
    · skip
      refine cReg ?_
      refine mV hTT _ rfl ?_
      refine mV hTT _ rfl ?_
      refine mX (.d (.one (.v (.int .u8 (sb b i : Int))))) (xIx (b := b) (z := ((i : Nat) : Int)) rfl Try.underlying9 rfl rfl (by omega) (by omega)) ?_
      refine mV hTT (.d (.one (.v (.bool false)))) (evb (beq_eq_false_iff_ne.2 fun e => hk1 i (by omega) (by omega))) ?_
      refine mNil ?_
      refine tN ?_
      refine cF rfl ?_
      refine cSkip ?_
      refine bN ?_
      refine tN ?_
      refine cReg ?_
      refine mV hTT _ rfl ?_
      refine mV hTT (.d (.one (.v (.int .i64 (IntKind.i64.wrap (((i : Nat) : Int) + 1)))))) rfl ?_
      refine mV hTT _ rfl ?_
      refine mNil ?_
      exact ⟨(i + 1), by omega, by omega, wk (sl := [(0, .d (.one (.v (.string b)))), (2, .ptr 2 0), (3, .d (.one (.v (.int .i64 0)))), (4, .d (.one (.v (.int .i64 (if (i + 1) ≤ k then (-1 : Int) else (k : Int)))))), (5, .d (.one (.v (.int .i64 (((i + 1) : Nat) : Int)))))]) (hp := [(2, .box 27 ([.v (.bool false), .v (.slice none 0 0), .v (.bool false), .v (.slice none 0 0)]))]) rfl ⟨hs rfl, hs rfl, hs rfl, hs' rfl (le_int (if_pos (by omega)).symm), hs' rfl (le_int ((wr64 (by omega) (by omega)).trans (by omega))), trivial⟩ ⟨ho rfl, trivial⟩ rfl⟩
  · skip
    have hie : i = k + 1 := by omega
    refine cView 4 (.d (.one (.v (.int .i64 (k : Int))))) rfl (le_int (if_neg hik)) ?_
    by_cases hks : k + 1 < b.size
    · skip
      refine cReg ?_
      refine mV hTT _ rfl ?_
      refine mV hTT _ rfl ?_
      refine mX (.d (.one (.v (.int .i64 (ByteArray.size b : Int))))) (xLen (b := b) rfl rfl rfl rfl Try.underlying9 rfl) ?_
      refine mV hTT (.d (.one (.v (.bool true)))) (evb (decide_eq_true (by omega))) ?_
      refine mV hTT _ rfl ?_
      refine mV hTT _ rfl ?_
      refine mV hTT (.d (.one (.v (.bool false)))) (evb (decide_eq_false (by omega))) ?_
      refine mV hTT _ rfl ?_
      refine mNil ?_
      refine tN ?_
      refine cF rfl ?_
      refine cExit ?_
      refine tE ?_
      refine tE ?_
      refine bE ?_
      refine tN ?_
      refine cSeq ?_
      refine cSeq ?_
      refine cReg ?_
      refine mV hTT _ rfl ?_
      refine mV hTT (.d (.one (.v (.bool false)))) (evb (decide_eq_false (by omega))) ?_
      refine mNil ?_
      refine tN ?_
      refine cF rfl ?_
      refine cSkip ?_
      refine tN ?_
      refine cSeq ?_
      refine cReg ?_
      refine mV hTT _ rfl ?_
      refine mV hTT _ rfl ?_
      refine mX (.d (.one (.v (.string (ByteArray.extract b 0 k))))) (xSl (b := b) (l' := 0) (h' := k) rfl Try.underlying9 rfl rfl (bndN rfl) (by omega) (by omega)) ?_
      refine mC0 (aDParse (b := (ByteArray.extract b 0 k)) hl) rfl rfl rfl ?_
      refine mV hTT _ rfl ?_
      refine mV hTT _ rfl ?_
      refine mV hTT _ rfl ?_
      refine mN hTT (.box 24 ([.v (.bool false), .v (.slice none 0 0)])) rfl rfl rfl ?_
      refine mS hTT 8 (.box 24 (zn 1200 (pvl (ByteArray.extract b 0 k)))) rfl ?_
      refine mV hTT _ rfl ?_
      refine mNil ?_
      refine tN ?_
      refine cSeq ?_
      refine cSeq ?_
      refine cReg ?_
      refine mV hTT _ rfl ?_
      refine mV hTT (.d (.one (.v (.bool false)))) rfl ?_
      refine mNil ?_
      refine tN ?_
      refine cF rfl ?_
      refine cSkip ?_
      refine tN ?_
      refine cSeq ?_
      refine cSeq ?_
      by_cases hks1 : k + 1 < b.size
      · skip
        have hne := neg_first hn hks1
        refine cReg ?_
        refine mV hTT _ rfl ?_
        refine mV hTT (.d (.one (.v (.int .i64 ((k + 1 : Nat) : Int))))) (evi ((wr64 (by omega) (by omega)).trans (by omega))) ?_
        refine mV hTT _ rfl ?_
        refine mX (.d (.one (.v (.int .i64 (ByteArray.size b : Int))))) (xLen (b := b) rfl rfl rfl rfl Try.underlying9 rfl) ?_
        refine mV hTT (.d (.one (.v (.bool true)))) (evb (decide_eq_true (by omega))) ?_
        refine mV hTT _ rfl ?_
        refine mV hTT _ rfl ?_
        refine mV hTT _ rfl ?_
        refine mV hTT (.d (.one (.v (.int .i64 ((k + 1 : Nat) : Int))))) (evi ((wr64 (by omega) (by omega)).trans (by omega))) ?_
        refine mX (.d (.one (.v (.int .u8 (sb b (k + 1) : Int))))) (xIx (b := b) (z := ((k + 1 : Nat) : Int)) rfl Try.underlying9 rfl rfl (by omega) (by omega)) ?_
        refine mV hTT (.d (.one (.v (.bool false)))) (evb (beq_eq_false_iff_ne.2 fun e => hne (by omega))) ?_
        refine mV hTT _ rfl ?_
        refine mNil ?_
        refine tN ?_
        refine cF rfl ?_
        refine cSkip ?_
        refine tN ?_
        refine cSeq ?_
        refine cReg ?_
        refine mV hTT _ rfl ?_
        refine mV hTT _ rfl ?_
        refine mV hTT (.d (.one (.v (.int .i64 ((k + 1 : Nat) : Int))))) (evi ((wr64 (by omega) (by omega)).trans (by omega))) ?_
        refine mX (.d (.one (.v (.string (ByteArray.extract b (k + 1) (ByteArray.size b)))))) (xSl (b := b) (l' := (k + 1)) (h' := (ByteArray.size b)) rfl Try.underlying9 rfl (bndN rfl) rfl (by omega) (Nat.le_refl _)) ?_
        refine mC0 (aDBad (b := (ByteArray.extract b (k + 1) (ByteArray.size b))) hr) rfl rfl rfl ?_
        refine mV hTT _ rfl ?_
        refine mV hTT _ rfl ?_
        refine mV hTT _ rfl ?_
        refine mN hTT (.box 24 ([.v (.bool false), .v (.slice none 0 0)])) rfl rfl rfl ?_
        refine mS hTT 10 (.box 24 ([.v (.bool false), .v (.slice none 0 0)])) rfl ?_
        refine mV hTT _ rfl ?_
        refine mNil ?_
        refine tN ?_
        refine cSeq ?_
        refine cSeq ?_
        refine cReg ?_
        refine mV hTT _ rfl ?_
        refine mV hTT (.d (.one (.v (.bool true)))) rfl ?_
        refine mNil ?_
        refine tN ?_
        refine cT rfl ?_
        refine cSeq ?_
        refine cReg ?_
        refine mV hTT (.d (.agg ([.v (.bool false), .v (.slice none 0 0), .v (.bool false), .v (.slice none 0 0)]))) rfl ?_
        refine mV hTT _ rfl ?_
        refine mS hTT 2 (.box 27 ([.v (.bool false), .v (.slice none 0 0), .v (.bool false), .v (.slice none 0 0)])) rfl ?_
        refine mV hTT _ rfl ?_
        refine mNil ?_
        refine tN ?_
        refine cRet ?_
        refine tR ?_
        exact rQ rfl (AV.le.rfl)
      · skip
        refine cReg ?_
        refine mV hTT _ rfl ?_
        refine mV hTT (.d (.one (.v (.int .i64 ((k + 1 : Nat) : Int))))) (evi ((wr64 (by omega) (by omega)).trans (by omega))) ?_
        refine mV hTT _ rfl ?_
        refine mX (.d (.one (.v (.int .i64 (ByteArray.size b : Int))))) (xLen (b := b) rfl rfl rfl rfl Try.underlying9 rfl) ?_
        refine mV hTT (.d (.one (.v (.bool false)))) (evb (decide_eq_false (by omega))) ?_
        refine mV hTT _ rfl ?_
        refine mG rfl rfl ?_
        refine mG rfl rfl ?_
        refine mG rfl rfl ?_
        refine mG rfl rfl ?_
        refine mG rfl rfl ?_
        refine mV hTT _ rfl ?_
        refine mNil ?_
        refine tN ?_
        refine cF rfl ?_
        refine cSkip ?_
        refine tN ?_
        refine cSeq ?_
        refine cReg ?_
        refine mV hTT _ rfl ?_
        refine mV hTT _ rfl ?_
        refine mV hTT (.d (.one (.v (.int .i64 ((k + 1 : Nat) : Int))))) (evi ((wr64 (by omega) (by omega)).trans (by omega))) ?_
        refine mX (.d (.one (.v (.string (ByteArray.extract b (k + 1) (ByteArray.size b)))))) (xSl (b := b) (l' := (k + 1)) (h' := (ByteArray.size b)) rfl Try.underlying9 rfl (bndN rfl) rfl (by omega) (Nat.le_refl _)) ?_
        refine mC0 (aDBad (b := (ByteArray.extract b (k + 1) (ByteArray.size b))) hr) rfl rfl rfl ?_
        refine mV hTT _ rfl ?_
        refine mV hTT _ rfl ?_
        refine mV hTT _ rfl ?_
        refine mN hTT (.box 24 ([.v (.bool false), .v (.slice none 0 0)])) rfl rfl rfl ?_
        refine mS hTT 10 (.box 24 ([.v (.bool false), .v (.slice none 0 0)])) rfl ?_
        refine mV hTT _ rfl ?_
        refine mNil ?_
        refine tN ?_
        refine cSeq ?_
        refine cSeq ?_
        refine cReg ?_
        refine mV hTT _ rfl ?_
        refine mV hTT (.d (.one (.v (.bool true)))) rfl ?_
        refine mNil ?_
        refine tN ?_
        refine cT rfl ?_
        refine cSeq ?_
        refine cReg ?_
        refine mV hTT (.d (.agg ([.v (.bool false), .v (.slice none 0 0), .v (.bool false), .v (.slice none 0 0)]))) rfl ?_
        refine mV hTT _ rfl ?_
        refine mS hTT 2 (.box 27 ([.v (.bool false), .v (.slice none 0 0), .v (.bool false), .v (.slice none 0 0)])) rfl ?_
        refine mV hTT _ rfl ?_
        refine mNil ?_
        refine tN ?_
        refine cRet ?_
        refine tR ?_
        exact rQ rfl (AV.le.rfl)
    · skip
      refine cReg ?_
      refine mV hTT _ rfl ?_
      refine mV hTT _ rfl ?_
      refine mX (.d (.one (.v (.int .i64 (ByteArray.size b : Int))))) (xLen (b := b) rfl rfl rfl rfl Try.underlying9 rfl) ?_
      refine mV hTT (.d (.one (.v (.bool false)))) (evb (decide_eq_false (by omega))) ?_
      refine mV hTT _ rfl ?_
      refine mG rfl rfl ?_
      refine mG rfl rfl ?_
      refine mV hTT _ rfl ?_
      refine mNil ?_
      refine tN ?_
      refine cF rfl ?_
      refine cExit ?_
      refine tE ?_
      refine tE ?_
      refine bE ?_
      refine tN ?_
      refine cSeq ?_
      refine cSeq ?_
      refine cReg ?_
      refine mV hTT _ rfl ?_
      refine mV hTT (.d (.one (.v (.bool false)))) (evb (decide_eq_false (by omega))) ?_
      refine mNil ?_
      refine tN ?_
      refine cF rfl ?_
      refine cSkip ?_
      refine tN ?_
      refine cSeq ?_
      refine cReg ?_
      refine mV hTT _ rfl ?_
      refine mV hTT _ rfl ?_
      refine mX (.d (.one (.v (.string (ByteArray.extract b 0 k))))) (xSl (b := b) (l' := 0) (h' := k) rfl Try.underlying9 rfl rfl (bndN rfl) (by omega) (by omega)) ?_
      refine mC0 (aDParse (b := (ByteArray.extract b 0 k)) hl) rfl rfl rfl ?_
      refine mV hTT _ rfl ?_
      refine mV hTT _ rfl ?_
      refine mV hTT _ rfl ?_
      refine mN hTT (.box 24 ([.v (.bool false), .v (.slice none 0 0)])) rfl rfl rfl ?_
      refine mS hTT 8 (.box 24 (zn 1200 (pvl (ByteArray.extract b 0 k)))) rfl ?_
      refine mV hTT _ rfl ?_
      refine mNil ?_
      refine tN ?_
      refine cSeq ?_
      refine cSeq ?_
      refine cReg ?_
      refine mV hTT _ rfl ?_
      refine mV hTT (.d (.one (.v (.bool false)))) rfl ?_
      refine mNil ?_
      refine tN ?_
      refine cF rfl ?_
      refine cSkip ?_
      refine tN ?_
      refine cSeq ?_
      refine cSeq ?_
      by_cases hks1 : k + 1 < b.size
      · skip
        have hne := neg_first hn hks1
        refine cReg ?_
        refine mV hTT _ rfl ?_
        refine mV hTT (.d (.one (.v (.int .i64 ((k + 1 : Nat) : Int))))) (evi ((wr64 (by omega) (by omega)).trans (by omega))) ?_
        refine mV hTT _ rfl ?_
        refine mX (.d (.one (.v (.int .i64 (ByteArray.size b : Int))))) (xLen (b := b) rfl rfl rfl rfl Try.underlying9 rfl) ?_
        refine mV hTT (.d (.one (.v (.bool true)))) (evb (decide_eq_true (by omega))) ?_
        refine mV hTT _ rfl ?_
        refine mV hTT _ rfl ?_
        refine mV hTT _ rfl ?_
        refine mV hTT (.d (.one (.v (.int .i64 ((k + 1 : Nat) : Int))))) (evi ((wr64 (by omega) (by omega)).trans (by omega))) ?_
        refine mX (.d (.one (.v (.int .u8 (sb b (k + 1) : Int))))) (xIx (b := b) (z := ((k + 1 : Nat) : Int)) rfl Try.underlying9 rfl rfl (by omega) (by omega)) ?_
        refine mV hTT (.d (.one (.v (.bool false)))) (evb (beq_eq_false_iff_ne.2 fun e => hne (by omega))) ?_
        refine mV hTT _ rfl ?_
        refine mNil ?_
        refine tN ?_
        refine cF rfl ?_
        refine cSkip ?_
        refine tN ?_
        refine cSeq ?_
        refine cReg ?_
        refine mV hTT _ rfl ?_
        refine mV hTT _ rfl ?_
        refine mV hTT (.d (.one (.v (.int .i64 ((k + 1 : Nat) : Int))))) (evi ((wr64 (by omega) (by omega)).trans (by omega))) ?_
        refine mX (.d (.one (.v (.string (ByteArray.extract b (k + 1) (ByteArray.size b)))))) (xSl (b := b) (l' := (k + 1)) (h' := (ByteArray.size b)) rfl Try.underlying9 rfl (bndN rfl) rfl (by omega) (Nat.le_refl _)) ?_
        refine mC0 (aDBad (b := (ByteArray.extract b (k + 1) (ByteArray.size b))) hr) rfl rfl rfl ?_
        refine mV hTT _ rfl ?_
        refine mV hTT _ rfl ?_
        refine mV hTT _ rfl ?_
        refine mN hTT (.box 24 ([.v (.bool false), .v (.slice none 0 0)])) rfl rfl rfl ?_
        refine mS hTT 10 (.box 24 ([.v (.bool false), .v (.slice none 0 0)])) rfl ?_
        refine mV hTT _ rfl ?_
        refine mNil ?_
        refine tN ?_
        refine cSeq ?_
        refine cSeq ?_
        refine cReg ?_
        refine mV hTT _ rfl ?_
        refine mV hTT (.d (.one (.v (.bool true)))) rfl ?_
        refine mNil ?_
        refine tN ?_
        refine cT rfl ?_
        refine cSeq ?_
        refine cReg ?_
        refine mV hTT (.d (.agg ([.v (.bool false), .v (.slice none 0 0), .v (.bool false), .v (.slice none 0 0)]))) rfl ?_
        refine mV hTT _ rfl ?_
        refine mS hTT 2 (.box 27 ([.v (.bool false), .v (.slice none 0 0), .v (.bool false), .v (.slice none 0 0)])) rfl ?_
        refine mV hTT _ rfl ?_
        refine mNil ?_
        refine tN ?_
        refine cRet ?_
        refine tR ?_
        exact rQ rfl (AV.le.rfl)
      · skip
        refine cReg ?_
        refine mV hTT _ rfl ?_
        refine mV hTT (.d (.one (.v (.int .i64 ((k + 1 : Nat) : Int))))) (evi ((wr64 (by omega) (by omega)).trans (by omega))) ?_
        refine mV hTT _ rfl ?_
        refine mX (.d (.one (.v (.int .i64 (ByteArray.size b : Int))))) (xLen (b := b) rfl rfl rfl rfl Try.underlying9 rfl) ?_
        refine mV hTT (.d (.one (.v (.bool false)))) (evb (decide_eq_false (by omega))) ?_
        refine mV hTT _ rfl ?_
        refine mG rfl rfl ?_
        refine mG rfl rfl ?_
        refine mG rfl rfl ?_
        refine mG rfl rfl ?_
        refine mG rfl rfl ?_
        refine mV hTT _ rfl ?_
        refine mNil ?_
        refine tN ?_
        refine cF rfl ?_
        refine cSkip ?_
        refine tN ?_
        refine cSeq ?_
        refine cReg ?_
        refine mV hTT _ rfl ?_
        refine mV hTT _ rfl ?_
        refine mV hTT (.d (.one (.v (.int .i64 ((k + 1 : Nat) : Int))))) (evi ((wr64 (by omega) (by omega)).trans (by omega))) ?_
        refine mX (.d (.one (.v (.string (ByteArray.extract b (k + 1) (ByteArray.size b)))))) (xSl (b := b) (l' := (k + 1)) (h' := (ByteArray.size b)) rfl Try.underlying9 rfl (bndN rfl) rfl (by omega) (Nat.le_refl _)) ?_
        refine mC0 (aDBad (b := (ByteArray.extract b (k + 1) (ByteArray.size b))) hr) rfl rfl rfl ?_
        refine mV hTT _ rfl ?_
        refine mV hTT _ rfl ?_
        refine mV hTT _ rfl ?_
        refine mN hTT (.box 24 ([.v (.bool false), .v (.slice none 0 0)])) rfl rfl rfl ?_
        refine mS hTT 10 (.box 24 ([.v (.bool false), .v (.slice none 0 0)])) rfl ?_
        refine mV hTT _ rfl ?_
        refine mNil ?_
        refine tN ?_
        refine cSeq ?_
        refine cSeq ?_
        refine cReg ?_
        refine mV hTT _ rfl ?_
        refine mV hTT (.d (.one (.v (.bool true)))) rfl ?_
        refine mNil ?_
        refine tN ?_
        refine cT rfl ?_
        refine cSeq ?_
        refine cReg ?_
        refine mV hTT (.d (.agg ([.v (.bool false), .v (.slice none 0 0), .v (.bool false), .v (.slice none 0 0)]))) rfl ?_
        refine mV hTT _ rfl ?_
        refine mS hTT 2 (.box 27 ([.v (.bool false), .v (.slice none 0 0), .v (.bool false), .v (.slice none 0 0)])) rfl ?_
        refine mV hTT _ rfl ?_
        refine mNil ?_
        refine tN ?_
        refine cRet ?_
        refine tR ?_
        exact rQ rfl (AV.le.rfl)

set_option maxRecDepth 100000 in
set_option maxHeartbeats 4000000 in
theorem aTPInt {b : ByteArray} (hb : b.size ≤ 1000000) (hk1 : ∀ i, i < b.size → sb b i ≠ 47) (hl : okT b) : ACall Try.prog 24 [.one (.v (.string b))] (.tup [.agg (tn 1200 ((pvl b : Int) : Rat)), .one (.v (.int .i64 0))]) := by
  refine acallN hTT 80 [.cell 2 27, .tmp 3] Try.func24 rfl rfl rfl rfl rfl ?_
  refine cSeq ?_
  refine cReg ?_
  refine mN hTT (.box 27 ([.v (.bool false), .v (.slice none 0 0), .v (.bool false), .v (.slice none 0 0)])) rfl rfl rfl ?_
  refine mV hTT _ rfl ?_
  refine mNil ?_
  refine tN ?_
  refine cSeq ?_
  refine cReg ?_
  refine mV hTT _ rfl ?_
  refine mNil ?_
  refine tN ?_
  refine cSeq ?_
  refine cSeq ?_
  refine cReg ?_
  refine mV hTT _ rfl ?_
  refine mNil ?_
  refine tN ?_
  refine cBlock ?_
  refine cLoop (ι := Nat) (fun (i : Nat) => ⟨80, [(0, .d (.one (.v (.string b)))), (2, .ptr 2 0), (3, .d (.one (.v (.int .i64 0)))), (4, .d (.one (.v (.int .i64 (-1))))), (5, .d (.one (.v (.int .i64 ((i : Nat) : Int)))))], [(2, .box 27 ([.v (.bool false), .v (.slice none 0 0), .v (.bool false), .v (.slice none 0 0)]))]⟩) (fun (i : Nat) => i ≤ b.size) (fun (i : Nat) => b.size - i) 0 (Nat.zero_le _) (wk (sl := [(0, .d (.one (.v (.string b)))), (2, .ptr 2 0), (3, .d (.one (.v (.int .i64 0)))), (4, .d (.one (.v (.int .i64 (-1))))), (5, .d (.one (.v (.int .i64 ((0 : Nat) : Int)))))]) (hp := [(2, .box 27 ([.v (.bool false), .v (.slice none 0 0), .v (.bool false), .v (.slice none 0 0)]))]) rfl ⟨hs rfl, hs rfl, hs rfl, hs rfl, hs' rfl (le_int rfl), trivial⟩ ⟨ho rfl, trivial⟩ rfl) ?_
  rintro i hI
  have hi : i ≤ b.size := hI
  show AW Try.prog _ _ ⟨80, [(0, .d (.one (.v (.string b)))), (2, .ptr 2 0), (3, .d (.one (.v (.int .i64 0)))), (4, .d (.one (.v (.int .i64 (-1))))), (5, .d (.one (.v (.int .i64 ((i : Nat) : Int)))))], [(2, .box 27 ([.v (.bool false), .v (.slice none 0 0), .v (.bool false), .v (.slice none 0 0)]))]⟩
  refine cSeq ?_
  refine cSeq ?_
  by_cases hik : i < b.size
  · skip
    refine cReg ?_
    refine mV hTT _ rfl ?_
    refine mV hTT _ rfl ?_
    refine mX (.d (.one (.v (.int .i64 (ByteArray.size b : Int))))) (xLen (b := b) rfl rfl rfl rfl Try.underlying9 rfl) ?_
    refine mV hTT (.d (.one (.v (.bool true)))) (evb (decide_eq_true (by omega))) ?_
    refine mV hTT _ rfl ?_
    refine mV hTT _ rfl ?_
    refine mV hTT (.d (.one (.v (.bool true)))) rfl ?_
    refine mV hTT _ rfl ?_
    refine mNil ?_
    refine tN ?_
    refine cT rfl ?_
    refine cSkip ?_
    refine tN ?_
    refine cSeq ?_
    refine cBlock ?_
    refine cSeq ?_
    refine cReg ?_
    refine mV hTT _ rfl ?_
    refine mV hTT _ rfl ?_
    refine mX (.d (.one (.v (.int .u8 (sb b i : Int))))) (xIx (b := b) (z := ((i : Nat) : Int)) rfl Try.underlying9 rfl rfl (by omega) (by omega)) ?_
    refine mV hTT (.d (.one (.v (.bool false)))) (evb (beq_eq_false_iff_ne.2 fun e => hk1 i (by omega) (by omega))) ?_
    refine mNil ?_
    refine tN ?_
    refine cF rfl ?_
    refine cSkip ?_
    refine bN ?_
    refine tN ?_
    refine cReg ?_
    refine mV hTT _ rfl ?_
    refine mV hTT (.d (.one (.v (.int .i64 (IntKind.i64.wrap (((i : Nat) : Int) + 1)))))) rfl ?_
    refine mV hTT _ rfl ?_
    refine mNil ?_
    exact ⟨(i + 1), by omega, by omega, wk (sl := [(0, .d (.one (.v (.string b)))), (2, .ptr 2 0), (3, .d (.one (.v (.int .i64 0)))), (4, .d (.one (.v (.int .i64 (-1))))), (5, .d (.one (.v (.int .i64 (((i + 1) : Nat) : Int)))))]) (hp := [(2, .box 27 ([.v (.bool false), .v (.slice none 0 0), .v (.bool false), .v (.slice none 0 0)]))]) rfl ⟨hs rfl, hs rfl, hs rfl, hs rfl, hs' rfl (le_int ((wr64 (by omega) (by omega)).trans (by omega))), trivial⟩ ⟨ho rfl, trivial⟩ rfl⟩
  · skip
    refine cReg ?_
    refine mV hTT _ rfl ?_
    refine mV hTT _ rfl ?_
    refine mX (.d (.one (.v (.int .i64 (ByteArray.size b : Int))))) (xLen (b := b) rfl rfl rfl rfl Try.underlying9 rfl) ?_
    refine mV hTT (.d (.one (.v (.bool false)))) (evb (decide_eq_false (by omega))) ?_
    refine mV hTT _ rfl ?_
    refine mG rfl rfl ?_
    refine mG rfl rfl ?_
    refine mV hTT _ rfl ?_
    refine mNil ?_
    refine tN ?_
    refine cF rfl ?_
    refine cExit ?_
    refine tE ?_
    refine tE ?_
    refine bE ?_
    refine tN ?_
    refine cSeq ?_
    refine cSeq ?_
    refine cReg ?_
    refine mV hTT _ rfl ?_
    refine mV hTT (.d (.one (.v (.bool true)))) rfl ?_
    refine mNil ?_
    refine tN ?_
    refine cT rfl ?_
    refine cSeq ?_
    refine cReg ?_
    refine mV hTT _ rfl ?_
    refine mC0 (aDParse (b := b) hl) rfl rfl rfl ?_
    refine mV hTT _ rfl ?_
    refine mV hTT _ rfl ?_
    refine mV hTT _ rfl ?_
    refine mN hTT (.box 24 ([.v (.bool false), .v (.slice none 0 0)])) rfl rfl rfl ?_
    refine mS hTT 6 (.box 24 (zn 1200 (pvl b))) rfl ?_
    refine mV hTT _ rfl ?_
    refine mNil ?_
    refine tN ?_
    refine cSeq ?_
    refine cSeq ?_
    refine cReg ?_
    refine mV hTT _ rfl ?_
    refine mV hTT (.d (.one (.v (.bool false)))) rfl ?_
    refine mNil ?_
    refine tN ?_
    refine cF rfl ?_
    refine cSkip ?_
    refine tN ?_
    refine cSeq ?_
    refine cReg ?_
    refine mV hTT (.d (.agg (zn 1200 (pvl b)))) rfl ?_
    refine mC0 (aTInt (isz 1200 (pvl b)) (M := 1200) (by decide) (by decide)) rfl rfl rfl ?_
    refine mS hTT 2 (.box 27 (tn 1200 (((pvl b) : Int) : Rat))) rfl ?_
    refine mV hTT _ rfl ?_
    refine mNil ?_
    refine tN ?_
    refine cRet ?_
    refine tR ?_
    exact rQ rfl (AV.le.rfl)

set_option maxRecDepth 100000 in
set_option maxHeartbeats 4000000 in
theorem aTPBadI {b : ByteArray} (hb : b.size ≤ 1000000) (hk1 : ∀ i, i < b.size → sb b i ≠ 47) (hl : ¬ okT b) : ACall Try.prog 24 [.one (.v (.string b))] (.tup [.agg [.v (.bool false), .v (.slice none 0 0), .v (.bool false), .v (.slice none 0 0)], .one (.v (.int .i64 4))]) := by
  refine acallN hTT 80 [.cell 2 27, .tmp 3] Try.func24 rfl rfl rfl rfl rfl ?_
  refine cSeq ?_
  refine cReg ?_
  refine mN hTT (.box 27 ([.v (.bool false), .v (.slice none 0 0), .v (.bool false), .v (.slice none 0 0)])) rfl rfl rfl ?_
  refine mV hTT _ rfl ?_
  refine mNil ?_
  refine tN ?_
  refine cSeq ?_
  refine cReg ?_
  refine mV hTT _ rfl ?_
  refine mNil ?_
  refine tN ?_
  refine cSeq ?_
  refine cSeq ?_
  refine cReg ?_
  refine mV hTT _ rfl ?_
  refine mNil ?_
  refine tN ?_
  refine cBlock ?_
  refine cLoop (ι := Nat) (fun (i : Nat) => ⟨80, [(0, .d (.one (.v (.string b)))), (2, .ptr 2 0), (3, .d (.one (.v (.int .i64 0)))), (4, .d (.one (.v (.int .i64 (-1))))), (5, .d (.one (.v (.int .i64 ((i : Nat) : Int)))))], [(2, .box 27 ([.v (.bool false), .v (.slice none 0 0), .v (.bool false), .v (.slice none 0 0)]))]⟩) (fun (i : Nat) => i ≤ b.size) (fun (i : Nat) => b.size - i) 0 (Nat.zero_le _) (wk (sl := [(0, .d (.one (.v (.string b)))), (2, .ptr 2 0), (3, .d (.one (.v (.int .i64 0)))), (4, .d (.one (.v (.int .i64 (-1))))), (5, .d (.one (.v (.int .i64 ((0 : Nat) : Int)))))]) (hp := [(2, .box 27 ([.v (.bool false), .v (.slice none 0 0), .v (.bool false), .v (.slice none 0 0)]))]) rfl ⟨hs rfl, hs rfl, hs rfl, hs rfl, hs' rfl (le_int rfl), trivial⟩ ⟨ho rfl, trivial⟩ rfl) ?_
  rintro i hI
  have hi : i ≤ b.size := hI
  show AW Try.prog _ _ ⟨80, [(0, .d (.one (.v (.string b)))), (2, .ptr 2 0), (3, .d (.one (.v (.int .i64 0)))), (4, .d (.one (.v (.int .i64 (-1))))), (5, .d (.one (.v (.int .i64 ((i : Nat) : Int)))))], [(2, .box 27 ([.v (.bool false), .v (.slice none 0 0), .v (.bool false), .v (.slice none 0 0)]))]⟩
  refine cSeq ?_
  refine cSeq ?_
  by_cases hik : i < b.size
  · skip
    refine cReg ?_
    refine mV hTT _ rfl ?_
    refine mV hTT _ rfl ?_
    refine mX (.d (.one (.v (.int .i64 (ByteArray.size b : Int))))) (xLen (b := b) rfl rfl rfl rfl Try.underlying9 rfl) ?_
    refine mV hTT (.d (.one (.v (.bool true)))) (evb (decide_eq_true (by omega))) ?_
    refine mV hTT _ rfl ?_
    refine mV hTT _ rfl ?_
    refine mV hTT (.d (.one (.v (.bool true)))) rfl ?_
    refine mV hTT _ rfl ?_
    refine mNil ?_
    refine tN ?_
    refine cT rfl ?_
    refine cSkip ?_
    refine tN ?_
    refine cSeq ?_
    refine cBlock ?_
    refine cSeq ?_
    refine cReg ?_
    refine mV hTT _ rfl ?_
    refine mV hTT _ rfl ?_
    refine mX (.d (.one (.v (.int .u8 (sb b i : Int))))) (xIx (b := b) (z := ((i : Nat) : Int)) rfl Try.underlying9 rfl rfl (by omega) (by omega)) ?_
    refine mV hTT (.d (.one (.v (.bool false)))) (evb (beq_eq_false_iff_ne.2 fun e => hk1 i (by omega) (by omega))) ?_
    refine mNil ?_
    refine tN ?_
    refine cF rfl ?_
    refine cSkip ?_
    refine bN ?_
    refine tN ?_
    refine cReg ?_
    refine mV hTT _ rfl ?_
    refine mV hTT (.d (.one (.v (.int .i64 (IntKind.i64.wrap (((i : Nat) : Int) + 1)))))) rfl ?_
    refine mV hTT _ rfl ?_
    refine mNil ?_
    exact ⟨(i + 1), by omega, by omega, wk (sl := [(0, .d (.one (.v (.string b)))), (2, .ptr 2 0), (3, .d (.one (.v (.int .i64 0)))), (4, .d (.one (.v (.int .i64 (-1))))), (5, .d (.one (.v (.int .i64 (((i + 1) : Nat) : Int)))))]) (hp := [(2, .box 27 ([.v (.bool false), .v (.slice none 0 0), .v (.bool false), .v (.slice none 0 0)]))]) rfl ⟨hs rfl, hs rfl, hs rfl, hs rfl, hs' rfl (le_int ((wr64 (by omega) (by omega)).trans (by omega))), trivial⟩ ⟨ho rfl, trivial⟩ rfl⟩
  · skip
    refine cReg ?_
    refine mV hTT _ rfl ?_
    refine mV hTT _ rfl ?_
    refine mX (.d (.one (.v (.int .i64 (ByteArray.size b : Int))))) (xLen (b := b) rfl rfl rfl rfl Try.underlying9 rfl) ?_
    refine mV hTT (.d (.one (.v (.bool false)))) (evb (decide_eq_false (by omega))) ?_
    refine mV hTT _ rfl ?_
    refine mG rfl rfl ?_
    refine mG rfl rfl ?_
    refine mV hTT _ rfl ?_
    refine mNil ?_
    refine tN ?_
    refine cF rfl ?_
    refine cExit ?_
    refine tE ?_
    refine tE ?_
    refine bE ?_
    refine tN ?_
    refine cSeq ?_
    refine cSeq ?_
    refine cReg ?_
    refine mV hTT _ rfl ?_
    refine mV hTT (.d (.one (.v (.bool true)))) rfl ?_
    refine mNil ?_
    refine tN ?_
    refine cT rfl ?_
    refine cSeq ?_
    refine cReg ?_
    refine mV hTT _ rfl ?_
    refine mC0 (aDBad (b := b) hl) rfl rfl rfl ?_
    refine mV hTT _ rfl ?_
    refine mV hTT _ rfl ?_
    refine mV hTT _ rfl ?_
    refine mN hTT (.box 24 ([.v (.bool false), .v (.slice none 0 0)])) rfl rfl rfl ?_
    refine mS hTT 6 (.box 24 ([.v (.bool false), .v (.slice none 0 0)])) rfl ?_
    refine mV hTT _ rfl ?_
    refine mNil ?_
    refine tN ?_
    refine cSeq ?_
    refine cSeq ?_
    refine cReg ?_
    refine mV hTT _ rfl ?_
    refine mV hTT (.d (.one (.v (.bool true)))) rfl ?_
    refine mNil ?_
    refine tN ?_
    refine cT rfl ?_
    refine cSeq ?_
    refine cReg ?_
    refine mV hTT (.d (.agg ([.v (.bool false), .v (.slice none 0 0), .v (.bool false), .v (.slice none 0 0)]))) rfl ?_
    refine mV hTT _ rfl ?_
    refine mS hTT 2 (.box 27 ([.v (.bool false), .v (.slice none 0 0), .v (.bool false), .v (.slice none 0 0)])) rfl ?_
    refine mV hTT _ rfl ?_
    refine mNil ?_
    refine tN ?_
    refine cRet ?_
    refine tR ?_
    refine tR ?_
    exact rQ rfl (AV.le.rfl)

set_option maxRecDepth 100000 in
set_option maxHeartbeats 4000000 in
theorem aRPFrac {b : ByteArray} {k : Nat} (hk : k < b.size) (hb : b.size ≤ 1000000) (hk1 : ∀ i, i < k → sb b i ≠ 47) (hk2 : sb b k = 47) (hl : okT (ByteArray.extract b 0 k)) (hn : isneg (ByteArray.extract b (k + 1) (ByteArray.size b)) = false) (hr : okT (ByteArray.extract b (k + 1) (ByteArray.size b))) (hd : pvl (ByteArray.extract b (k + 1) (ByteArray.size b)) ≠ 0) : ACall Try.prog 25 [.one (.v (.string b))] (.tup [.agg (qn 401 (mkR (pvl (ByteArray.extract b 0 k)) (pvl (ByteArray.extract b (k + 1) (ByteArray.size b))))), .one (.v (.int .i64 0))]) := by
  have hs0 : 0 < (ByteArray.extract b (k + 1) (ByteArray.size b)).size := okT_pos hr
  have hks1 := ok_more hr
  have hsb : sb (ByteArray.extract b (k + 1) (ByteArray.size b)) 0 = sb b (k + 1) := by rw [sb_ext (Nat.le_refl _) (by omega), Nat.add_zero]
  have hne := neg_first hn hks1
  refine acallN hTT 61 [.cell 2 40, .tmp 3] Try.func25 rfl rfl rfl rfl rfl ?_
  refine cSeq ?_
  refine cReg ?_
  refine mN hTT (.box 40 ([.v (.slice none 0 0), .v (.bool false), .v (.slice none 0 0), .v (.bool false)])) rfl rfl rfl ?_
  refine mV hTT _ rfl ?_
  refine mNil ?_
  refine tN ?_
  refine cSeq ?_
  refine cReg ?_
  refine mV hTT _ rfl ?_
  refine mNil ?_
  refine tN ?_
  refine cSeq ?_
  refine cBlock ?_
  refine cLoop (ι := Nat) (fun (i : Nat) => ⟨61, [(0, .d (.one (.v (.string b)))), (2, .ptr 2 0), (3, .d (.one (.v (.int .i64 0)))), (4, .d (.one (.v (.int .i64 ((i : Nat) : Int)))))], [(2, .box 40 ([.v (.slice none 0 0), .v (.bool false), .v (.slice none 0 0), .v (.bool false)]))]⟩) (fun (i : Nat) => i ≤ k) (fun (i : Nat) => k - i) 0 (Nat.zero_le _) (wk (sl := [(0, .d (.one (.v (.string b)))), (2, .ptr 2 0), (3, .d (.one (.v (.int .i64 0)))), (4, .d (.one (.v (.int .i64 ((0 : Nat) : Int)))))]) (hp := [(2, .box 40 ([.v (.slice none 0 0), .v (.bool false), .v (.slice none 0 0), .v (.bool false)]))]) rfl ⟨hs rfl, hs rfl, hs rfl, hs' rfl (le_int rfl), trivial⟩ ⟨ho rfl, trivial⟩ rfl) ?_
  rintro i hI
  have hi : i ≤ k := hI
  show AW Try.prog _ _ ⟨61, [(0, .d (.one (.v (.string b)))), (2, .ptr 2 0), (3, .d (.one (.v (.int .i64 0)))), (4, .d (.one (.v (.int .i64 ((i : Nat) : Int)))))], [(2, .box 40 ([.v (.slice none 0 0), .v (.bool false), .v (.slice none 0 0), .v (.bool false)]))]⟩
  refine cSeq ?_
  refine cSeq ?_
  by_cases hik : i < k
  · skip
    refine cReg ?_
    refine mV hTT _ rfl ?_
    refine mV hTT _ rfl ?_
    refine mX (.d (.one (.v (.int .i64 (ByteArray.size b : Int))))) (xLen (b := b) rfl rfl rfl rfl Try.underlying9 rfl) ?_
    refine mV hTT (.d (.one (.v (.bool true)))) (evb (decide_eq_true (by omega))) ?_
    refine mV hTT _ rfl ?_
    refine mV hTT _ rfl ?_
    refine mV hTT _ rfl ?_
    refine mX (.d (.one (.v (.int .u8 (sb b i : Int))))) (xIx (b := b) (z := ((i : Nat) : Int)) rfl Try.underlying9 rfl rfl (by omega) (by omega)) ?_
    refine mV hTT (.d (.one (.v (.bool true)))) (evb (bne_iff_ne.2 fun e => hk1 i (by omega) (by omega))) ?_
    refine mV hTT _ rfl ?_
    refine mNil ?_
    refine tN ?_
    refine cT rfl ?_
    refine cSkip ?_
    refine tN ?_
    refine cBlock ?_
    refine cReg ?_
    refine mV hTT _ rfl ?_
    refine mV hTT (.d (.one (.v (.int .i64 (IntKind.i64.wrap (((i : Nat) : Int) + 1)))))) rfl ?_
    refine mV hTT _ rfl ?_
    refine mNil ?_
    refine bN ?_
    exact ⟨(i + 1), by omega, by omega, wk (sl := [(0, .d (.one (.v (.string b)))), (2, .ptr 2 0), (3, .d (.one (.v (.int .i64 0)))), (4, .d (.one (.v (.int .i64 (((i + 1) : Nat) : Int)))))]) (hp := [(2, .box 40 ([.v (.slice none 0 0), .v (.bool false), .v (.slice none 0 0), .v (.bool false)]))]) rfl ⟨hs rfl, hs rfl, hs rfl, hs' rfl (le_int ((wr64 (by omega) (by omega)).trans (by omega))), trivial⟩ ⟨ho rfl, trivial⟩ rfl⟩
  · skip
    have hie : i = k := by omega
    refine cReg ?_
    refine mV hTT _ rfl ?_
    refine mV hTT _ rfl ?_
    refine mX (.d (.one (.v (.int .i64 (ByteArray.size b : Int))))) (xLen (b := b) rfl rfl rfl rfl Try.underlying9 rfl) ?_
    refine mV hTT (.d (.one (.v (.bool true)))) (evb (decide_eq_true (by omega))) ?_
    refine mV hTT _ rfl ?_
    refine mV hTT _ rfl ?_
    refine mV hTT _ rfl ?_
    refine mX (.d (.one (.v (.int .u8 (sb b i : Int))))) (xIx (b := b) (z := ((i : Nat) : Int)) rfl Try.underlying9 rfl rfl (by omega) (by omega)) ?_
    refine mV hTT (.d (.one (.v (.bool false)))) (evb (by rw [hie, hk2]; rfl)) ?_
    refine mV hTT _ rfl ?_
    refine mNil ?_
    refine tN ?_
    refine cF rfl ?_
    refine cExit ?_
    refine tE ?_
    refine tE ?_
    refine bE ?_
    refine tN ?_
    refine cSeq ?_
    refine cView 4 (.d (.one (.v (.int .i64 ((k : Nat) : Int))))) rfl (le_int (by rw [hie])) ?_
    refine cReg ?_
    refine mV hTT _ rfl ?_
    refine mV hTT _ rfl ?_
    refine mX (.d (.one (.v (.string (ByteArray.extract b 0 k))))) (xSl (b := b) (l' := 0) (h' := k) rfl Try.underlying9 rfl rfl (bndN rfl) (by omega) (by omega)) ?_
    refine mC0 (aRParse (b := (ByteArray.extract b 0 k)) hl) rfl rfl rfl ?_
    refine mV hTT _ rfl ?_
    refine mV hTT _ rfl ?_
    refine mV hTT _ rfl ?_
    refine mN hTT (.box 34 ([.v (.slice none 0 0), .v (.bool false)])) rfl rfl rfl ?_
    refine mS hTT 5 (.box 34 (rn 401 (pvl (ByteArray.extract b 0 k)))) rfl ?_
    refine mV hTT _ rfl ?_
    refine mNil ?_
    refine tN ?_
    refine cSeq ?_
    refine cSeq ?_
    refine cReg ?_
    refine mV hTT _ rfl ?_
    refine mV hTT (.d (.one (.v (.bool false)))) rfl ?_
    refine mNil ?_
    refine tN ?_
    refine cF rfl ?_
    refine cSkip ?_
    refine tN ?_
    refine cSeq ?_
    refine cSeq ?_
    refine cReg ?_
    refine mV hTT _ rfl ?_
    refine mV hTT _ rfl ?_
    refine mX (.d (.one (.v (.int .i64 (ByteArray.size b : Int))))) (xLen (b := b) rfl rfl rfl rfl Try.underlying9 rfl) ?_
    refine mV hTT (.d (.one (.v (.bool false)))) (evb (beq_eq_false_iff_ne.2 fun e => by omega)) ?_
    refine mNil ?_
    refine tN ?_
    refine cF rfl ?_
    refine cSkip ?_
    refine tN ?_
    refine cSeq ?_
    refine cReg ?_
    refine mV hTT _ rfl ?_
    refine mV hTT _ rfl ?_
    refine mV hTT (.d (.one (.v (.int .i64 ((k + 1 : Nat) : Int))))) (evi ((wr64 (by omega) (by omega)).trans (by omega))) ?_
    refine mX (.d (.one (.v (.string (ByteArray.extract b (k + 1) (ByteArray.size b)))))) (xSl (b := b) (l' := (k + 1)) (h' := (ByteArray.size b)) rfl Try.underlying9 rfl (bndN rfl) rfl (by omega) (Nat.le_refl _)) ?_
    refine mV hTT _ rfl ?_
    refine mNil ?_
    refine tN ?_
    refine cSeq ?_
    refine cReg ?_
    refine mV hTT _ rfl ?_
    refine mC0 (aRParse (b := (ByteArray.extract b (k + 1) (ByteArray.size b))) hr) rfl rfl rfl ?_
    refine mV hTT _ rfl ?_
    refine mV hTT _ rfl ?_
    refine mV hTT _ rfl ?_
    refine mN hTT (.box 34 ([.v (.slice none 0 0), .v (.bool false)])) rfl rfl rfl ?_
    refine mS hTT 8 (.box 34 (rn 401 (pvl (ByteArray.extract b (k + 1) (ByteArray.size b))))) rfl ?_
    refine mV hTT _ rfl ?_
    refine mNil ?_
    refine tN ?_
    refine cSeq ?_
    refine cSeq ?_
    refine cReg ?_
    refine mV hTT _ rfl ?_
    refine mV hTT (.d (.one (.v (.bool false)))) rfl ?_
    refine mV hTT _ rfl ?_
    refine mV hTT _ rfl ?_
    refine mX (.d (.one (.v (.int .u8 (sb (ByteArray.extract b (k + 1) (ByteArray.size b)) 0 : Int))))) (xIx (b := (ByteArray.extract b (k + 1) (ByteArray.size b))) (z := 0) rfl Try.underlying9 rfl rfl (by decide) (by omega)) ?_
    refine mV hTT (.d (.one (.v (.bool false)))) (evb (beq_eq_false_iff_ne.2 fun e => hne (by omega))) ?_
    refine mV hTT _ rfl ?_
    refine mNil ?_
    refine tN ?_
    refine cF rfl ?_
    refine cSkip ?_
    refine tN ?_
    refine cSeq ?_
    refine cSeq ?_
    refine cReg ?_
    refine mV hTT (.d (.agg (rn 401 (pvl (ByteArray.extract b (k + 1) (ByteArray.size b)))))) rfl ?_
    refine mC0 (aRZero (isr 401 (pvl (ByteArray.extract b (k + 1) (ByteArray.size b))))) rfl rfl rfl ?_
    refine mNil ?_
    refine tN ?_
    refine cView 56 (.d (.one (.v (.bool false)))) rfl (le_bool (decide_eq_false hd)) ?_
    refine cF rfl ?_
    refine cSkip ?_
    refine tN ?_
    refine cSeq ?_
    refine cReg ?_
    refine mV hTT (.d (.agg (rn 401 (pvl (ByteArray.extract b 0 k))))) rfl ?_
    refine mV hTT (.d (.agg (rn 401 (pvl (ByteArray.extract b (k + 1) (ByteArray.size b)))))) rfl ?_
    refine mC0 (aRMake (isr 401 (pvl (ByteArray.extract b 0 k))) (isr 401 (pvl (ByteArray.extract b (k + 1) (ByteArray.size b)))) (M := 401) (by decide) (by decide)) rfl rfl rfl ?_
    refine mS hTT 2 (.box 40 (qn 401 (mkR (pvl (ByteArray.extract b 0 k)) (pvl (ByteArray.extract b (k + 1) (ByteArray.size b)))))) rfl ?_
    refine mV hTT _ rfl ?_
    refine mNil ?_
    refine tN ?_
    refine cRet ?_
    exact rQ rfl (AV.le.rfl)

set_option maxRecDepth 100000 in
set_option maxHeartbeats 4000000 in
theorem aRPFrac0 {b : ByteArray} {k : Nat} (hk : k < b.size) (hb : b.size ≤ 1000000) (hk1 : ∀ i, i < k → sb b i ≠ 47) (hk2 : sb b k = 47) (hl : okT (ByteArray.extract b 0 k)) (hn : isneg (ByteArray.extract b (k + 1) (ByteArray.size b)) = false) (hr : okT (ByteArray.extract b (k + 1) (ByteArray.size b))) (hd : pvl (ByteArray.extract b (k + 1) (ByteArray.size b)) = 0) : ACall Try.prog 25 [.one (.v (.string b))] (.tup [.agg [.v (.slice none 0 0), .v (.bool false), .v (.slice none 0 0), .v (.bool false)], .one (.v (.int .i64 2))]) := by
  have hs0 : 0 < (ByteArray.extract b (k + 1) (ByteArray.size b)).size := okT_pos hr
  have hks1 := ok_more hr
  have hsb : sb (ByteArray.extract b (k + 1) (ByteArray.size b)) 0 = sb b (k + 1) := by rw [sb_ext (Nat.le_refl _) (by omega), Nat.add_zero]
  have hne := neg_first hn hks1
  refine acallN hTT 61 [.cell 2 40, .tmp 3] Try.func25 rfl rfl rfl rfl rfl ?_
  refine cSeq ?_
  refine cReg ?_
  refine mN hTT (.box 40 ([.v (.slice none 0 0), .v (.bool false), .v (.slice none 0 0), .v (.bool false)])) rfl rfl rfl ?_
  refine mV hTT _ rfl ?_
  refine mNil ?_
  refine tN ?_
  refine cSeq ?_
  refine cReg ?_
  refine mV hTT _ rfl ?_
  refine mNil ?_
  refine tN ?_
  refine cSeq ?_
  refine cBlock ?_
  refine cLoop (ι := Nat) (fun (i : Nat) => ⟨61, [(0, .d (.one (.v (.string b)))), (2, .ptr 2 0), (3, .d (.one (.v (.int .i64 0)))), (4, .d (.one (.v (.int .i64 ((i : Nat) : Int)))))], [(2, .box 40 ([.v (.slice none 0 0), .v (.bool false), .v (.slice none 0 0), .v (.bool false)]))]⟩) (fun (i : Nat) => i ≤ k) (fun (i : Nat) => k - i) 0 (Nat.zero_le _) (wk (sl := [(0, .d (.one (.v (.string b)))), (2, .ptr 2 0), (3, .d (.one (.v (.int .i64 0)))), (4, .d (.one (.v (.int .i64 ((0 : Nat) : Int)))))]) (hp := [(2, .box 40 ([.v (.slice none 0 0), .v (.bool false), .v (.slice none 0 0), .v (.bool false)]))]) rfl ⟨hs rfl, hs rfl, hs rfl, hs' rfl (le_int rfl), trivial⟩ ⟨ho rfl, trivial⟩ rfl) ?_
  rintro i hI
  have hi : i ≤ k := hI
  show AW Try.prog _ _ ⟨61, [(0, .d (.one (.v (.string b)))), (2, .ptr 2 0), (3, .d (.one (.v (.int .i64 0)))), (4, .d (.one (.v (.int .i64 ((i : Nat) : Int)))))], [(2, .box 40 ([.v (.slice none 0 0), .v (.bool false), .v (.slice none 0 0), .v (.bool false)]))]⟩
  refine cSeq ?_
  refine cSeq ?_
  by_cases hik : i < k
  · skip
    refine cReg ?_
    refine mV hTT _ rfl ?_
    refine mV hTT _ rfl ?_
    refine mX (.d (.one (.v (.int .i64 (ByteArray.size b : Int))))) (xLen (b := b) rfl rfl rfl rfl Try.underlying9 rfl) ?_
    refine mV hTT (.d (.one (.v (.bool true)))) (evb (decide_eq_true (by omega))) ?_
    refine mV hTT _ rfl ?_
    refine mV hTT _ rfl ?_
    refine mV hTT _ rfl ?_
    refine mX (.d (.one (.v (.int .u8 (sb b i : Int))))) (xIx (b := b) (z := ((i : Nat) : Int)) rfl Try.underlying9 rfl rfl (by omega) (by omega)) ?_
    refine mV hTT (.d (.one (.v (.bool true)))) (evb (bne_iff_ne.2 fun e => hk1 i (by omega) (by omega))) ?_
    refine mV hTT _ rfl ?_
    refine mNil ?_
    refine tN ?_
    refine cT rfl ?_
    refine cSkip ?_
    refine tN ?_
    refine cBlock ?_
    refine cReg ?_
    refine mV hTT _ rfl ?_
    refine mV hTT (.d (.one (.v (.int .i64 (IntKind.i64.wrap (((i : Nat) : Int) + 1)))))) rfl ?_
    refine mV hTT _ rfl ?_
    refine mNil ?_
    refine bN ?_
    exact ⟨(i + 1), by omega, by omega, wk (sl := [(0, .d (.one (.v (.string b)))), (2, .ptr 2 0), (3, .d (.one (.v (.int .i64 0)))), (4, .d (.one (.v (.int .i64 (((i + 1) : Nat) : Int)))))]) (hp := [(2, .box 40 ([.v (.slice none 0 0), .v (.bool false), .v (.slice none 0 0), .v (.bool false)]))]) rfl ⟨hs rfl, hs rfl, hs rfl, hs' rfl (le_int ((wr64 (by omega) (by omega)).trans (by omega))), trivial⟩ ⟨ho rfl, trivial⟩ rfl⟩
  · skip
    have hie : i = k := by omega
    refine cReg ?_
    refine mV hTT _ rfl ?_
    refine mV hTT _ rfl ?_
    refine mX (.d (.one (.v (.int .i64 (ByteArray.size b : Int))))) (xLen (b := b) rfl rfl rfl rfl Try.underlying9 rfl) ?_
    refine mV hTT (.d (.one (.v (.bool true)))) (evb (decide_eq_true (by omega))) ?_
    refine mV hTT _ rfl ?_
    refine mV hTT _ rfl ?_
    refine mV hTT _ rfl ?_
    refine mX (.d (.one (.v (.int .u8 (sb b i : Int))))) (xIx (b := b) (z := ((i : Nat) : Int)) rfl Try.underlying9 rfl rfl (by omega) (by omega)) ?_
    refine mV hTT (.d (.one (.v (.bool false)))) (evb (by rw [hie, hk2]; rfl)) ?_
    refine mV hTT _ rfl ?_
    refine mNil ?_
    refine tN ?_
    refine cF rfl ?_
    refine cExit ?_
    refine tE ?_
    refine tE ?_
    refine bE ?_
    refine tN ?_
    refine cSeq ?_
    refine cView 4 (.d (.one (.v (.int .i64 ((k : Nat) : Int))))) rfl (le_int (by rw [hie])) ?_
    refine cReg ?_
    refine mV hTT _ rfl ?_
    refine mV hTT _ rfl ?_
    refine mX (.d (.one (.v (.string (ByteArray.extract b 0 k))))) (xSl (b := b) (l' := 0) (h' := k) rfl Try.underlying9 rfl rfl (bndN rfl) (by omega) (by omega)) ?_
    refine mC0 (aRParse (b := (ByteArray.extract b 0 k)) hl) rfl rfl rfl ?_
    refine mV hTT _ rfl ?_
    refine mV hTT _ rfl ?_
    refine mV hTT _ rfl ?_
    refine mN hTT (.box 34 ([.v (.slice none 0 0), .v (.bool false)])) rfl rfl rfl ?_
    refine mS hTT 5 (.box 34 (rn 401 (pvl (ByteArray.extract b 0 k)))) rfl ?_
    refine mV hTT _ rfl ?_
    refine mNil ?_
    refine tN ?_
    refine cSeq ?_
    refine cSeq ?_
    refine cReg ?_
    refine mV hTT _ rfl ?_
    refine mV hTT (.d (.one (.v (.bool false)))) rfl ?_
    refine mNil ?_
    refine tN ?_
    refine cF rfl ?_
    refine cSkip ?_
    refine tN ?_
    refine cSeq ?_
    refine cSeq ?_
    refine cReg ?_
    refine mV hTT _ rfl ?_
    refine mV hTT _ rfl ?_
    refine mX (.d (.one (.v (.int .i64 (ByteArray.size b : Int))))) (xLen (b := b) rfl rfl rfl rfl Try.underlying9 rfl) ?_
    refine mV hTT (.d (.one (.v (.bool false)))) (evb (beq_eq_false_iff_ne.2 fun e => by omega)) ?_
    refine mNil ?_
    refine tN ?_
    refine cF rfl ?_
    refine cSkip ?_
    refine tN ?_
    refine cSeq ?_
    refine cReg ?_
    refine mV hTT _ rfl ?_
    refine mV hTT _ rfl ?_
    refine mV hTT (.d (.one (.v (.int .i64 ((k + 1 : Nat) : Int))))) (evi ((wr64 (by omega) (by omega)).trans (by omega))) ?_
    refine mX (.d (.one (.v (.string (ByteArray.extract b (k + 1) (ByteArray.size b)))))) (xSl (b := b) (l' := (k + 1)) (h' := (ByteArray.size b)) rfl Try.underlying9 rfl (bndN rfl) rfl (by omega) (Nat.le_refl _)) ?_
    refine mV hTT _ rfl ?_
    refine mNil ?_
    refine tN ?_
    refine cSeq ?_
    refine cReg ?_
    refine mV hTT _ rfl ?_
    refine mC0 (aRParse (b := (ByteArray.extract b (k + 1) (ByteArray.size b))) hr) rfl rfl rfl ?_
    refine mV hTT _ rfl ?_
    refine mV hTT _ rfl ?_
    refine mV hTT _ rfl ?_
    refine mN hTT (.box 34 ([.v (.slice none 0 0), .v (.bool false)])) rfl rfl rfl ?_
    refine mS hTT 8 (.box 34 (rn 401 (pvl (ByteArray.extract b (k + 1) (ByteArray.size b))))) rfl ?_
    refine mV hTT _ rfl ?_
    refine mNil ?_
    refine tN ?_
    refine cSeq ?_
    refine cSeq ?_
    refine cReg ?_
    refine mV hTT _ rfl ?_
    refine mV hTT (.d (.one (.v (.bool false)))) rfl ?_
    refine mV hTT _ rfl ?_
    refine mV hTT _ rfl ?_
    refine mX (.d (.one (.v (.int .u8 (sb (ByteArray.extract b (k + 1) (ByteArray.size b)) 0 : Int))))) (xIx (b := (ByteArray.extract b (k + 1) (ByteArray.size b))) (z := 0) rfl Try.underlying9 rfl rfl (by decide) (by omega)) ?_
    refine mV hTT (.d (.one (.v (.bool false)))) (evb (beq_eq_false_iff_ne.2 fun e => hne (by omega))) ?_
    refine mV hTT _ rfl ?_
    refine mNil ?_
    refine tN ?_
    refine cF rfl ?_
    refine cSkip ?_
    refine tN ?_
    refine cSeq ?_
    refine cSeq ?_
    refine cReg ?_
    refine mV hTT (.d (.agg (rn 401 (pvl (ByteArray.extract b (k + 1) (ByteArray.size b)))))) rfl ?_
    refine mC0 (aRZero (isr 401 (pvl (ByteArray.extract b (k + 1) (ByteArray.size b))))) rfl rfl rfl ?_
    refine mNil ?_
    refine tN ?_
    refine cView 56 (.d (.one (.v (.bool true)))) rfl (le_bool (decide_eq_true hd)) ?_
    refine cT rfl ?_
    refine cSeq ?_
    refine cReg ?_
    refine mV hTT (.d (.agg ([.v (.slice none 0 0), .v (.bool false), .v (.slice none 0 0), .v (.bool false)]))) rfl ?_
    refine mS hTT 2 (.box 40 ([.v (.slice none 0 0), .v (.bool false), .v (.slice none 0 0), .v (.bool false)])) rfl ?_
    refine mV hTT _ rfl ?_
    refine mNil ?_
    refine tN ?_
    refine cRet ?_
    refine tR ?_
    exact rQ rfl (AV.le.rfl)

set_option maxRecDepth 100000 in
set_option maxHeartbeats 4000000 in
theorem aRPBadL {b : ByteArray} {k : Nat} (hk : k < b.size) (hb : b.size ≤ 1000000) (hk1 : ∀ i, i < k → sb b i ≠ 47) (hk2 : sb b k = 47) (hl : ¬ okT (ByteArray.extract b 0 k)) : ACall Try.prog 25 [.one (.v (.string b))] (.tup [.agg [.v (.slice none 0 0), .v (.bool false), .v (.slice none 0 0), .v (.bool false)], .one (.v (.int .i64 4))]) := by
  refine acallN hTT 61 [.cell 2 40, .tmp 3] Try.func25 rfl rfl rfl rfl rfl ?_
  refine cSeq ?_
  refine cReg ?_
  refine mN hTT (.box 40 ([.v (.slice none 0 0), .v (.bool false), .v (.slice none 0 0), .v (.bool false)])) rfl rfl rfl ?_
  refine mV hTT _ rfl ?_
  refine mNil ?_
  refine tN ?_
  refine cSeq ?_
  refine cReg ?_
  refine mV hTT _ rfl ?_
  refine mNil ?_
  refine tN ?_
  refine cSeq ?_
  refine cBlock ?_
  refine cLoop (ι := Nat) (fun (i : Nat) => ⟨61, [(0, .d (.one (.v (.string b)))), (2, .ptr 2 0), (3, .d (.one (.v (.int .i64 0)))), (4, .d (.one (.v (.int .i64 ((i : Nat) : Int)))))], [(2, .box 40 ([.v (.slice none 0 0), .v (.bool false), .v (.slice none 0 0), .v (.bool false)]))]⟩) (fun (i : Nat) => i ≤ k) (fun (i : Nat) => k - i) 0 (Nat.zero_le _) (wk (sl := [(0, .d (.one (.v (.string b)))), (2, .ptr 2 0), (3, .d (.one (.v (.int .i64 0)))), (4, .d (.one (.v (.int .i64 ((0 : Nat) : Int)))))]) (hp := [(2, .box 40 ([.v (.slice none 0 0), .v (.bool false), .v (.slice none 0 0), .v (.bool false)]))]) rfl ⟨hs rfl, hs rfl, hs rfl, hs' rfl (le_int rfl), trivial⟩ ⟨ho rfl, trivial⟩ rfl) ?_
  rintro i hI
  have hi : i ≤ k := hI
  show AW Try.prog _ _ ⟨61, [(0, .d (.one (.v (.string b)))), (2, .ptr 2 0), (3, .d (.one (.v (.int .i64 0)))), (4, .d (.one (.v (.int .i64 ((i : Nat) : Int)))))], [(2, .box 40 ([.v (.slice none 0 0), .v (.bool false), .v (.slice none 0 0), .v (.bool false)]))]⟩
  refine cSeq ?_
  refine cSeq ?_
  by_cases hik : i < k
  · skip
    refine cReg ?_
    refine mV hTT _ rfl ?_
    refine mV hTT _ rfl ?_
    refine mX (.d (.one (.v (.int .i64 (ByteArray.size b : Int))))) (xLen (b := b) rfl rfl rfl rfl Try.underlying9 rfl) ?_
    refine mV hTT (.d (.one (.v (.bool true)))) (evb (decide_eq_true (by omega))) ?_
    refine mV hTT _ rfl ?_
    refine mV hTT _ rfl ?_
    refine mV hTT _ rfl ?_
    refine mX (.d (.one (.v (.int .u8 (sb b i : Int))))) (xIx (b := b) (z := ((i : Nat) : Int)) rfl Try.underlying9 rfl rfl (by omega) (by omega)) ?_
    refine mV hTT (.d (.one (.v (.bool true)))) (evb (bne_iff_ne.2 fun e => hk1 i (by omega) (by omega))) ?_
    refine mV hTT _ rfl ?_
    refine mNil ?_
    refine tN ?_
    refine cT rfl ?_
    refine cSkip ?_
    refine tN ?_
    refine cBlock ?_
    refine cReg ?_
    refine mV hTT _ rfl ?_
    refine mV hTT (.d (.one (.v (.int .i64 (IntKind.i64.wrap (((i : Nat) : Int) + 1)))))) rfl ?_
    refine mV hTT _ rfl ?_
    refine mNil ?_
    refine bN ?_
    exact ⟨(i + 1), by omega, by omega, wk (sl := [(0, .d (.one (.v (.string b)))), (2, .ptr 2 0), (3, .d (.one (.v (.int .i64 0)))), (4, .d (.one (.v (.int .i64 (((i + 1) : Nat) : Int)))))]) (hp := [(2, .box 40 ([.v (.slice none 0 0), .v (.bool false), .v (.slice none 0 0), .v (.bool false)]))]) rfl ⟨hs rfl, hs rfl, hs rfl, hs' rfl (le_int ((wr64 (by omega) (by omega)).trans (by omega))), trivial⟩ ⟨ho rfl, trivial⟩ rfl⟩
  · skip
    have hie : i = k := by omega
    refine cReg ?_
    refine mV hTT _ rfl ?_
    refine mV hTT _ rfl ?_
    refine mX (.d (.one (.v (.int .i64 (ByteArray.size b : Int))))) (xLen (b := b) rfl rfl rfl rfl Try.underlying9 rfl) ?_
    refine mV hTT (.d (.one (.v (.bool true)))) (evb (decide_eq_true (by omega))) ?_
    refine mV hTT _ rfl ?_
    refine mV hTT _ rfl ?_
    refine mV hTT _ rfl ?_
    refine mX (.d (.one (.v (.int .u8 (sb b i : Int))))) (xIx (b := b) (z := ((i : Nat) : Int)) rfl Try.underlying9 rfl rfl (by omega) (by omega)) ?_
    refine mV hTT (.d (.one (.v (.bool false)))) (evb (by rw [hie, hk2]; rfl)) ?_
    refine mV hTT _ rfl ?_
    refine mNil ?_
    refine tN ?_
    refine cF rfl ?_
    refine cExit ?_
    refine tE ?_
    refine tE ?_
    refine bE ?_
    refine tN ?_
    refine cSeq ?_
    refine cView 4 (.d (.one (.v (.int .i64 ((k : Nat) : Int))))) rfl (le_int (by rw [hie])) ?_
    refine cReg ?_
    refine mV hTT _ rfl ?_
    refine mV hTT _ rfl ?_
    refine mX (.d (.one (.v (.string (ByteArray.extract b 0 k))))) (xSl (b := b) (l' := 0) (h' := k) rfl Try.underlying9 rfl rfl (bndN rfl) (by omega) (by omega)) ?_
    refine mC0 (aRBad (b := (ByteArray.extract b 0 k)) hl) rfl rfl rfl ?_
    refine mV hTT _ rfl ?_
    refine mV hTT _ rfl ?_
    refine mV hTT _ rfl ?_
    refine mN hTT (.box 34 ([.v (.slice none 0 0), .v (.bool false)])) rfl rfl rfl ?_
    refine mS hTT 5 (.box 34 ([.v (.slice none 0 0), .v (.bool false)])) rfl ?_
    refine mV hTT _ rfl ?_
    refine mNil ?_
    refine tN ?_
    refine cSeq ?_
    refine cSeq ?_
    refine cReg ?_
    refine mV hTT _ rfl ?_
    refine mV hTT (.d (.one (.v (.bool true)))) rfl ?_
    refine mNil ?_
    refine tN ?_
    refine cT rfl ?_
    refine cSeq ?_
    refine cReg ?_
    refine mV hTT (.d (.agg ([.v (.slice none 0 0), .v (.bool false), .v (.slice none 0 0), .v (.bool false)]))) rfl ?_
    refine mS hTT 2 (.box 40 ([.v (.slice none 0 0), .v (.bool false), .v (.slice none 0 0), .v (.bool false)])) rfl ?_
    refine mV hTT _ rfl ?_
    refine mNil ?_
    refine tN ?_
    refine cRet ?_
    refine tR ?_
    exact rQ rfl (AV.le.rfl)

set_option maxRecDepth 100000 in
set_option maxHeartbeats 4000000 in
theorem aRPNeg {b : ByteArray} {k : Nat} (hk : k < b.size) (hb : b.size ≤ 1000000) (hk1 : ∀ i, i < k → sb b i ≠ 47) (hk2 : sb b k = 47) (hl : okT (ByteArray.extract b 0 k)) (hn : isneg (ByteArray.extract b (k + 1) (ByteArray.size b)) = true) (hr : okT (ByteArray.extract b (k + 1) (ByteArray.size b))) : ACall Try.prog 25 [.one (.v (.string b))] (.tup [.agg [.v (.slice none 0 0), .v (.bool false), .v (.slice none 0 0), .v (.bool false)], .one (.v (.int .i64 4))]) := by
  have hs0 : 0 < (ByteArray.extract b (k + 1) (ByteArray.size b)).size := okT_pos hr
  have hks1 := ok_more hr
  have hsb : sb (ByteArray.extract b (k + 1) (ByteArray.size b)) 0 = sb b (k + 1) := by rw [sb_ext (Nat.le_refl _) (by omega), Nat.add_zero]
  obtain ⟨_, hne⟩ := neg_at hn
  refine acallN hTT 61 [.cell 2 40, .tmp 3] Try.func25 rfl rfl rfl rfl rfl ?_
  refine cSeq ?_
  refine cReg ?_
  refine mN hTT (.box 40 ([.v (.slice none 0 0), .v (.bool false), .v (.slice none 0 0), .v (.bool false)])) rfl rfl rfl ?_
  refine mV hTT _ rfl ?_
  refine mNil ?_
  refine tN ?_
  refine cSeq ?_
  refine cReg ?_
  refine mV hTT _ rfl ?_
  refine mNil ?_
  refine tN ?_
  refine cSeq ?_
  refine cBlock ?_
  refine cLoop (ι := Nat) (fun (i : Nat) => ⟨61, [(0, .d (.one (.v (.string b)))), (2, .ptr 2 0), (3, .d (.one (.v (.int .i64 0)))), (4, .d (.one (.v (.int .i64 ((i : Nat) : Int)))))], [(2, .box 40 ([.v (.slice none 0 0), .v (.bool false), .v (.slice none 0 0), .v (.bool false)]))]⟩) (fun (i : Nat) => i ≤ k) (fun (i : Nat) => k - i) 0 (Nat.zero_le _) (wk (sl := [(0, .d (.one (.v (.string b)))), (2, .ptr 2 0), (3, .d (.one (.v (.int .i64 0)))), (4, .d (.one (.v (.int .i64 ((0 : Nat) : Int)))))]) (hp := [(2, .box 40 ([.v (.slice none 0 0), .v (.bool false), .v (.slice none 0 0), .v (.bool false)]))]) rfl ⟨hs rfl, hs rfl, hs rfl, hs' rfl (le_int rfl), trivial⟩ ⟨ho rfl, trivial⟩ rfl) ?_
  rintro i hI
  have hi : i ≤ k := hI
  show AW Try.prog _ _ ⟨61, [(0, .d (.one (.v (.string b)))), (2, .ptr 2 0), (3, .d (.one (.v (.int .i64 0)))), (4, .d (.one (.v (.int .i64 ((i : Nat) : Int)))))], [(2, .box 40 ([.v (.slice none 0 0), .v (.bool false), .v (.slice none 0 0), .v (.bool false)]))]⟩
  refine cSeq ?_
  refine cSeq ?_
  by_cases hik : i < k
  · skip
    refine cReg ?_
    refine mV hTT _ rfl ?_
    refine mV hTT _ rfl ?_
    refine mX (.d (.one (.v (.int .i64 (ByteArray.size b : Int))))) (xLen (b := b) rfl rfl rfl rfl Try.underlying9 rfl) ?_
    refine mV hTT (.d (.one (.v (.bool true)))) (evb (decide_eq_true (by omega))) ?_
    refine mV hTT _ rfl ?_
    refine mV hTT _ rfl ?_
    refine mV hTT _ rfl ?_
    refine mX (.d (.one (.v (.int .u8 (sb b i : Int))))) (xIx (b := b) (z := ((i : Nat) : Int)) rfl Try.underlying9 rfl rfl (by omega) (by omega)) ?_
    refine mV hTT (.d (.one (.v (.bool true)))) (evb (bne_iff_ne.2 fun e => hk1 i (by omega) (by omega))) ?_
    refine mV hTT _ rfl ?_
    refine mNil ?_
    refine tN ?_
    refine cT rfl ?_
    refine cSkip ?_
    refine tN ?_
    refine cBlock ?_
    refine cReg ?_
    refine mV hTT _ rfl ?_
    refine mV hTT (.d (.one (.v (.int .i64 (IntKind.i64.wrap (((i : Nat) : Int) + 1)))))) rfl ?_
    refine mV hTT _ rfl ?_
    refine mNil ?_
    refine bN ?_
    exact ⟨(i + 1), by omega, by omega, wk (sl := [(0, .d (.one (.v (.string b)))), (2, .ptr 2 0), (3, .d (.one (.v (.int .i64 0)))), (4, .d (.one (.v (.int .i64 (((i + 1) : Nat) : Int)))))]) (hp := [(2, .box 40 ([.v (.slice none 0 0), .v (.bool false), .v (.slice none 0 0), .v (.bool false)]))]) rfl ⟨hs rfl, hs rfl, hs rfl, hs' rfl (le_int ((wr64 (by omega) (by omega)).trans (by omega))), trivial⟩ ⟨ho rfl, trivial⟩ rfl⟩
  · skip
    have hie : i = k := by omega
    refine cReg ?_
    refine mV hTT _ rfl ?_
    refine mV hTT _ rfl ?_
    refine mX (.d (.one (.v (.int .i64 (ByteArray.size b : Int))))) (xLen (b := b) rfl rfl rfl rfl Try.underlying9 rfl) ?_
    refine mV hTT (.d (.one (.v (.bool true)))) (evb (decide_eq_true (by omega))) ?_
    refine mV hTT _ rfl ?_
    refine mV hTT _ rfl ?_
    refine mV hTT _ rfl ?_
    refine mX (.d (.one (.v (.int .u8 (sb b i : Int))))) (xIx (b := b) (z := ((i : Nat) : Int)) rfl Try.underlying9 rfl rfl (by omega) (by omega)) ?_
    refine mV hTT (.d (.one (.v (.bool false)))) (evb (by rw [hie, hk2]; rfl)) ?_
    refine mV hTT _ rfl ?_
    refine mNil ?_
    refine tN ?_
    refine cF rfl ?_
    refine cExit ?_
    refine tE ?_
    refine tE ?_
    refine bE ?_
    refine tN ?_
    refine cSeq ?_
    refine cView 4 (.d (.one (.v (.int .i64 ((k : Nat) : Int))))) rfl (le_int (by rw [hie])) ?_
    refine cReg ?_
    refine mV hTT _ rfl ?_
    refine mV hTT _ rfl ?_
    refine mX (.d (.one (.v (.string (ByteArray.extract b 0 k))))) (xSl (b := b) (l' := 0) (h' := k) rfl Try.underlying9 rfl rfl (bndN rfl) (by omega) (by omega)) ?_
    refine mC0 (aRParse (b := (ByteArray.extract b 0 k)) hl) rfl rfl rfl ?_
    refine mV hTT _ rfl ?_
    refine mV hTT _ rfl ?_
    refine mV hTT _ rfl ?_
    refine mN hTT (.box 34 ([.v (.slice none 0 0), .v (.bool false)])) rfl rfl rfl ?_
    refine mS hTT 5 (.box 34 (rn 401 (pvl (ByteArray.extract b 0 k)))) rfl ?_
    refine mV hTT _ rfl ?_
    refine mNil ?_
    refine tN ?_
    refine cSeq ?_
    refine cSeq ?_
    refine cReg ?_
    refine mV hTT _ rfl ?_
    refine mV hTT (.d (.one (.v (.bool false)))) rfl ?_
    refine mNil ?_
    refine tN ?_
    refine cF rfl ?_
    refine cSkip ?_
    refine tN ?_
    refine cSeq ?_
    refine cSeq ?_
    refine cReg ?_
    refine mV hTT _ rfl ?_
    refine mV hTT _ rfl ?_
    refine mX (.d (.one (.v (.int .i64 (ByteArray.size b : Int))))) (xLen (b := b) rfl rfl rfl rfl Try.underlying9 rfl) ?_
    refine mV hTT (.d (.one (.v (.bool false)))) (evb (beq_eq_false_iff_ne.2 fun e => by omega)) ?_
    refine mNil ?_
    refine tN ?_
    refine cF rfl ?_
    refine cSkip ?_
    refine tN ?_
    refine cSeq ?_
    refine cReg ?_
    refine mV hTT _ rfl ?_
    refine mV hTT _ rfl ?_
    refine mV hTT (.d (.one (.v (.int .i64 ((k + 1 : Nat) : Int))))) (evi ((wr64 (by omega) (by omega)).trans (by omega))) ?_
    refine mX (.d (.one (.v (.string (ByteArray.extract b (k + 1) (ByteArray.size b)))))) (xSl (b := b) (l' := (k + 1)) (h' := (ByteArray.size b)) rfl Try.underlying9 rfl (bndN rfl) rfl (by omega) (Nat.le_refl _)) ?_
    refine mV hTT _ rfl ?_
    refine mNil ?_
    refine tN ?_
    refine cSeq ?_
    refine cReg ?_
    refine mV hTT _ rfl ?_
    refine mC0 (aRParse (b := (ByteArray.extract b (k + 1) (ByteArray.size b))) hr) rfl rfl rfl ?_
    refine mV hTT _ rfl ?_
    refine mV hTT _ rfl ?_
    refine mV hTT _ rfl ?_
    refine mN hTT (.box 34 ([.v (.slice none 0 0), .v (.bool false)])) rfl rfl rfl ?_
    refine mS hTT 8 (.box 34 (rn 401 (pvl (ByteArray.extract b (k + 1) (ByteArray.size b))))) rfl ?_
    refine mV hTT _ rfl ?_
    refine mNil ?_
    refine tN ?_
    refine cSeq ?_
    refine cSeq ?_
    refine cReg ?_
    refine mV hTT _ rfl ?_
    refine mV hTT (.d (.one (.v (.bool false)))) rfl ?_
    refine mV hTT _ rfl ?_
    refine mV hTT _ rfl ?_
    refine mX (.d (.one (.v (.int .u8 (sb (ByteArray.extract b (k + 1) (ByteArray.size b)) 0 : Int))))) (xIx (b := (ByteArray.extract b (k + 1) (ByteArray.size b))) (z := 0) rfl Try.underlying9 rfl rfl (by decide) (by omega)) ?_
    refine mV hTT (.d (.one (.v (.bool true)))) (evb (by rw [hsb, hne]; rfl)) ?_
    refine mV hTT _ rfl ?_
    refine mNil ?_
    refine tN ?_
    refine cT rfl ?_
    refine cSeq ?_
    refine cReg ?_
    refine mV hTT (.d (.agg ([.v (.slice none 0 0), .v (.bool false), .v (.slice none 0 0), .v (.bool false)]))) rfl ?_
    refine mS hTT 2 (.box 40 ([.v (.slice none 0 0), .v (.bool false), .v (.slice none 0 0), .v (.bool false)])) rfl ?_
    refine mV hTT _ rfl ?_
    refine mNil ?_
    refine tN ?_
    refine cRet ?_
    refine tR ?_
    exact rQ rfl (AV.le.rfl)

set_option maxRecDepth 100000 in
set_option maxHeartbeats 4000000 in
theorem aRPBadR {b : ByteArray} {k : Nat} (hk : k < b.size) (hb : b.size ≤ 1000000) (hk1 : ∀ i, i < k → sb b i ≠ 47) (hk2 : sb b k = 47) (hl : okT (ByteArray.extract b 0 k)) (hr : ¬ okT (ByteArray.extract b (k + 1) (ByteArray.size b))) : ACall Try.prog 25 [.one (.v (.string b))] (.tup [.agg [.v (.slice none 0 0), .v (.bool false), .v (.slice none 0 0), .v (.bool false)], .one (.v (.int .i64 4))]) := by
  refine acallN hTT 61 [.cell 2 40, .tmp 3] Try.func25 rfl rfl rfl rfl rfl ?_
  refine cSeq ?_
  refine cReg ?_
  refine mN hTT (.box 40 ([.v (.slice none 0 0), .v (.bool false), .v (.slice none 0 0), .v (.bool false)])) rfl rfl rfl ?_
  refine mV hTT _ rfl ?_
  refine mNil ?_
  refine tN ?_
  refine cSeq ?_
  refine cReg ?_
  refine mV hTT _ rfl ?_
  refine mNil ?_
  refine tN ?_
  refine cSeq ?_
  refine cBlock ?_
  refine cLoop (ι := Nat) (fun (i : Nat) => ⟨61, [(0, .d (.one (.v (.string b)))), (2, .ptr 2 0), (3, .d (.one (.v (.int .i64 0)))), (4, .d (.one (.v (.int .i64 ((i : Nat) : Int)))))], [(2, .box 40 ([.v (.slice none 0 0), .v (.bool false), .v (.slice none 0 0), .v (.bool false)]))]⟩) (fun (i : Nat) => i ≤ k) (fun (i : Nat) => k - i) 0 (Nat.zero_le _) (wk (sl := [(0, .d (.one (.v (.string b)))), (2, .ptr 2 0), (3, .d (.one (.v (.int .i64 0)))), (4, .d (.one (.v (.int .i64 ((0 : Nat) : Int)))))]) (hp := [(2, .box 40 ([.v (.slice none 0 0), .v (.bool false), .v (.slice none 0 0), .v (.bool false)]))]) rfl ⟨hs rfl, hs rfl, hs rfl, hs' rfl (le_int rfl), trivial⟩ ⟨ho rfl, trivial⟩ rfl) ?_
  rintro i hI
  have hi : i ≤ k := hI
  show AW Try.prog _ _ ⟨61, [(0, .d (.one (.v (.string b)))), (2, .ptr 2 0), (3, .d (.one (.v (.int .i64 0)))), (4, .d (.one (.v (.int .i64 ((i : Nat) : Int)))))], [(2, .box 40 ([.v (.slice none 0 0), .v (.bool false), .v (.slice none 0 0), .v (.bool false)]))]⟩
  refine cSeq ?_
  refine cSeq ?_
  by_cases hik : i < k
  · skip
    refine cReg ?_
    refine mV hTT _ rfl ?_
    refine mV hTT _ rfl ?_
    refine mX (.d (.one (.v (.int .i64 (ByteArray.size b : Int))))) (xLen (b := b) rfl rfl rfl rfl Try.underlying9 rfl) ?_
    refine mV hTT (.d (.one (.v (.bool true)))) (evb (decide_eq_true (by omega))) ?_
    refine mV hTT _ rfl ?_
    refine mV hTT _ rfl ?_
    refine mV hTT _ rfl ?_
    refine mX (.d (.one (.v (.int .u8 (sb b i : Int))))) (xIx (b := b) (z := ((i : Nat) : Int)) rfl Try.underlying9 rfl rfl (by omega) (by omega)) ?_
    refine mV hTT (.d (.one (.v (.bool true)))) (evb (bne_iff_ne.2 fun e => hk1 i (by omega) (by omega))) ?_
    refine mV hTT _ rfl ?_
    refine mNil ?_
    refine tN ?_
    refine cT rfl ?_
    refine cSkip ?_
    refine tN ?_
    refine cBlock ?_
    refine cReg ?_
    refine mV hTT _ rfl ?_
    refine mV hTT (.d (.one (.v (.int .i64 (IntKind.i64.wrap (((i : Nat) : Int) + 1)))))) rfl ?_
    refine mV hTT _ rfl ?_
    refine mNil ?_
    refine bN ?_
    exact ⟨(i + 1), by omega, by omega, wk (sl := [(0, .d (.one (.v (.string b)))), (2, .ptr 2 0), (3, .d (.one (.v (.int .i64 0)))), (4, .d (.one (.v (.int .i64 (((i + 1) : Nat) : Int)))))]) (hp := [(2, .box 40 ([.v (.slice none 0 0), .v (.bool false), .v (.slice none 0 0), .v (.bool false)]))]) rfl ⟨hs rfl, hs rfl, hs rfl, hs' rfl (le_int ((wr64 (by omega) (by omega)).trans (by omega))), trivial⟩ ⟨ho rfl, trivial⟩ rfl⟩
  · skip
    have hie : i = k := by omega
    refine cReg ?_
    refine mV hTT _ rfl ?_
    refine mV hTT _ rfl ?_
    refine mX (.d (.one (.v (.int .i64 (ByteArray.size b : Int))))) (xLen (b := b) rfl rfl rfl rfl Try.underlying9 rfl) ?_
    refine mV hTT (.d (.one (.v (.bool true)))) (evb (decide_eq_true (by omega))) ?_
    refine mV hTT _ rfl ?_
    refine mV hTT _ rfl ?_
    refine mV hTT _ rfl ?_
    refine mX (.d (.one (.v (.int .u8 (sb b i : Int))))) (xIx (b := b) (z := ((i : Nat) : Int)) rfl Try.underlying9 rfl rfl (by omega) (by omega)) ?_
    refine mV hTT (.d (.one (.v (.bool false)))) (evb (by rw [hie, hk2]; rfl)) ?_
    refine mV hTT _ rfl ?_
    refine mNil ?_
    refine tN ?_
    refine cF rfl ?_
    refine cExit ?_
    refine tE ?_
    refine tE ?_
    refine bE ?_
    refine tN ?_
    refine cSeq ?_
    refine cView 4 (.d (.one (.v (.int .i64 ((k : Nat) : Int))))) rfl (le_int (by rw [hie])) ?_
    refine cReg ?_
    refine mV hTT _ rfl ?_
    refine mV hTT _ rfl ?_
    refine mX (.d (.one (.v (.string (ByteArray.extract b 0 k))))) (xSl (b := b) (l' := 0) (h' := k) rfl Try.underlying9 rfl rfl (bndN rfl) (by omega) (by omega)) ?_
    refine mC0 (aRParse (b := (ByteArray.extract b 0 k)) hl) rfl rfl rfl ?_
    refine mV hTT _ rfl ?_
    refine mV hTT _ rfl ?_
    refine mV hTT _ rfl ?_
    refine mN hTT (.box 34 ([.v (.slice none 0 0), .v (.bool false)])) rfl rfl rfl ?_
    refine mS hTT 5 (.box 34 (rn 401 (pvl (ByteArray.extract b 0 k)))) rfl ?_
    refine mV hTT _ rfl ?_
    refine mNil ?_
    refine tN ?_
    refine cSeq ?_
    refine cSeq ?_
    refine cReg ?_
    refine mV hTT _ rfl ?_
    refine mV hTT (.d (.one (.v (.bool false)))) rfl ?_
    refine mNil ?_
    refine tN ?_
    refine cF rfl ?_
    refine cSkip ?_
    refine tN ?_
    refine cSeq ?_
    refine cSeq ?_
    refine cReg ?_
    refine mV hTT _ rfl ?_
    refine mV hTT _ rfl ?_
    refine mX (.d (.one (.v (.int .i64 (ByteArray.size b : Int))))) (xLen (b := b) rfl rfl rfl rfl Try.underlying9 rfl) ?_
    refine mV hTT (.d (.one (.v (.bool false)))) (evb (beq_eq_false_iff_ne.2 fun e => by omega)) ?_
    refine mNil ?_
    refine tN ?_
    refine cF rfl ?_
    refine cSkip ?_
    refine tN ?_
    refine cSeq ?_
    refine cReg ?_
    refine mV hTT _ rfl ?_
    refine mV hTT _ rfl ?_
    refine mV hTT (.d (.one (.v (.int .i64 ((k + 1 : Nat) : Int))))) (evi ((wr64 (by omega) (by omega)).trans (by omega))) ?_
    refine mX (.d (.one (.v (.string (ByteArray.extract b (k + 1) (ByteArray.size b)))))) (xSl (b := b) (l' := (k + 1)) (h' := (ByteArray.size b)) rfl Try.underlying9 rfl (bndN rfl) rfl (by omega) (Nat.le_refl _)) ?_
    refine mV hTT _ rfl ?_
    refine mNil ?_
    refine tN ?_
    refine cSeq ?_
    refine cReg ?_
    refine mV hTT _ rfl ?_
    refine mC0 (aRBad (b := (ByteArray.extract b (k + 1) (ByteArray.size b))) hr) rfl rfl rfl ?_
    refine mV hTT _ rfl ?_
    refine mV hTT _ rfl ?_
    refine mV hTT _ rfl ?_
    refine mN hTT (.box 34 ([.v (.slice none 0 0), .v (.bool false)])) rfl rfl rfl ?_
    refine mS hTT 8 (.box 34 ([.v (.slice none 0 0), .v (.bool false)])) rfl ?_
    refine mV hTT _ rfl ?_
    refine mNil ?_
    refine tN ?_
    refine cSeq ?_
    refine cSeq ?_
    refine cReg ?_
    refine mV hTT _ rfl ?_
    refine mV hTT (.d (.one (.v (.bool true)))) rfl ?_
    refine mV hTT _ rfl ?_
    refine mG rfl rfl ?_
    refine mG rfl rfl ?_
    refine mG rfl rfl ?_
    refine mV hTT _ rfl ?_
    refine mNil ?_
    refine tN ?_
    refine cT rfl ?_
    refine cSeq ?_
    refine cReg ?_
    refine mV hTT (.d (.agg ([.v (.slice none 0 0), .v (.bool false), .v (.slice none 0 0), .v (.bool false)]))) rfl ?_
    refine mS hTT 2 (.box 40 ([.v (.slice none 0 0), .v (.bool false), .v (.slice none 0 0), .v (.bool false)])) rfl ?_
    refine mV hTT _ rfl ?_
    refine mNil ?_
    refine tN ?_
    refine cRet ?_
    refine tR ?_
    exact rQ rfl (AV.le.rfl)

set_option maxRecDepth 100000 in
set_option maxHeartbeats 4000000 in
theorem aRPInt {b : ByteArray} (hb : b.size ≤ 1000000) (hk1 : ∀ i, i < b.size → sb b i ≠ 47) (hl : okT b) : ACall Try.prog 25 [.one (.v (.string b))] (.tup [.agg (qn 401 (mkR (pvl b) 1)), .one (.v (.int .i64 0))]) := by
  have hea := ext_all b
  refine acallN hTT 61 [.cell 2 40, .tmp 3] Try.func25 rfl rfl rfl rfl rfl ?_
  refine cSeq ?_
  refine cReg ?_
  refine mN hTT (.box 40 ([.v (.slice none 0 0), .v (.bool false), .v (.slice none 0 0), .v (.bool false)])) rfl rfl rfl ?_
  refine mV hTT _ rfl ?_
  refine mNil ?_
  refine tN ?_
  refine cSeq ?_
  refine cReg ?_
  refine mV hTT _ rfl ?_
  refine mNil ?_
  refine tN ?_
  refine cSeq ?_
  refine cBlock ?_
  refine cLoop (ι := Nat) (fun (i : Nat) => ⟨61, [(0, .d (.one (.v (.string b)))), (2, .ptr 2 0), (3, .d (.one (.v (.int .i64 0)))), (4, .d (.one (.v (.int .i64 ((i : Nat) : Int)))))], [(2, .box 40 ([.v (.slice none 0 0), .v (.bool false), .v (.slice none 0 0), .v (.bool false)]))]⟩) (fun (i : Nat) => i ≤ b.size) (fun (i : Nat) => b.size - i) 0 (Nat.zero_le _) (wk (sl := [(0, .d (.one (.v (.string b)))), (2, .ptr 2 0), (3, .d (.one (.v (.int .i64 0)))), (4, .d (.one (.v (.int .i64 ((0 : Nat) : Int)))))]) (hp := [(2, .box 40 ([.v (.slice none 0 0), .v (.bool false), .v (.slice none 0 0), .v (.bool false)]))]) rfl ⟨hs rfl, hs rfl, hs rfl, hs' rfl (le_int rfl), trivial⟩ ⟨ho rfl, trivial⟩ rfl) ?_
  rintro i hI
  have hi : i ≤ b.size := hI
  show AW Try.prog _ _ ⟨61, [(0, .d (.one (.v (.string b)))), (2, .ptr 2 0), (3, .d (.one (.v (.int .i64 0)))), (4, .d (.one (.v (.int .i64 ((i : Nat) : Int)))))], [(2, .box 40 ([.v (.slice none 0 0), .v (.bool false), .v (.slice none 0 0), .v (.bool false)]))]⟩
  refine cSeq ?_
  refine cSeq ?_
  by_cases hik : i < b.size
  · skip
    refine cReg ?_
    refine mV hTT _ rfl ?_
    refine mV hTT _ rfl ?_
    refine mX (.d (.one (.v (.int .i64 (ByteArray.size b : Int))))) (xLen (b := b) rfl rfl rfl rfl Try.underlying9 rfl) ?_
    refine mV hTT (.d (.one (.v (.bool true)))) (evb (decide_eq_true (by omega))) ?_
    refine mV hTT _ rfl ?_
    refine mV hTT _ rfl ?_
    refine mV hTT _ rfl ?_
    refine mX (.d (.one (.v (.int .u8 (sb b i : Int))))) (xIx (b := b) (z := ((i : Nat) : Int)) rfl Try.underlying9 rfl rfl (by omega) (by omega)) ?_
    refine mV hTT (.d (.one (.v (.bool true)))) (evb (bne_iff_ne.2 fun e => hk1 i (by omega) (by omega))) ?_
    refine mV hTT _ rfl ?_
    refine mNil ?_
    refine tN ?_
    refine cT rfl ?_
    refine cSkip ?_
    refine tN ?_
    refine cBlock ?_
    refine cReg ?_
    refine mV hTT _ rfl ?_
    refine mV hTT (.d (.one (.v (.int .i64 (IntKind.i64.wrap (((i : Nat) : Int) + 1)))))) rfl ?_
    refine mV hTT _ rfl ?_
    refine mNil ?_
    refine bN ?_
    exact ⟨(i + 1), by omega, by omega, wk (sl := [(0, .d (.one (.v (.string b)))), (2, .ptr 2 0), (3, .d (.one (.v (.int .i64 0)))), (4, .d (.one (.v (.int .i64 (((i + 1) : Nat) : Int)))))]) (hp := [(2, .box 40 ([.v (.slice none 0 0), .v (.bool false), .v (.slice none 0 0), .v (.bool false)]))]) rfl ⟨hs rfl, hs rfl, hs rfl, hs' rfl (le_int ((wr64 (by omega) (by omega)).trans (by omega))), trivial⟩ ⟨ho rfl, trivial⟩ rfl⟩
  · skip
    refine cReg ?_
    refine mV hTT _ rfl ?_
    refine mV hTT _ rfl ?_
    refine mX (.d (.one (.v (.int .i64 (ByteArray.size b : Int))))) (xLen (b := b) rfl rfl rfl rfl Try.underlying9 rfl) ?_
    refine mV hTT (.d (.one (.v (.bool false)))) (evb (decide_eq_false (by omega))) ?_
    refine mV hTT _ rfl ?_
    refine mG rfl rfl ?_
    refine mG rfl rfl ?_
    refine mG rfl rfl ?_
    refine mG rfl rfl ?_
    refine mV hTT _ rfl ?_
    refine mNil ?_
    refine tN ?_
    refine cF rfl ?_
    refine cExit ?_
    refine tE ?_
    refine tE ?_
    refine bE ?_
    refine tN ?_
    refine cSeq ?_
    have hie : i = b.size := by omega
    refine cView 4 (.d (.one (.v (.int .i64 ((ByteArray.size b : Nat) : Int))))) rfl (le_int (by rw [hie])) ?_
    refine cReg ?_
    refine mV hTT _ rfl ?_
    refine mV hTT _ rfl ?_
    refine mX (.d (.one (.v (.string (ByteArray.extract b 0 (ByteArray.size b)))))) (xSl (b := b) (l' := 0) (h' := (ByteArray.size b)) rfl Try.underlying9 rfl rfl (bndN rfl) (Nat.zero_le _) (Nat.le_refl _)) ?_
    refine mC0 (aRParse (b := (ByteArray.extract b 0 (ByteArray.size b))) (by rw [hea]; exact hl)) rfl rfl rfl ?_
    refine mV hTT _ rfl ?_
    refine mV hTT _ rfl ?_
    refine mV hTT _ rfl ?_
    refine mN hTT (.box 34 ([.v (.slice none 0 0), .v (.bool false)])) rfl rfl rfl ?_
    refine mS hTT 5 (.box 34 (rn 401 (pvl (ByteArray.extract b 0 (ByteArray.size b))))) rfl ?_
    refine mV hTT _ rfl ?_
    refine mNil ?_
    refine tN ?_
    refine cSeq ?_
    refine cSeq ?_
    refine cReg ?_
    refine mV hTT _ rfl ?_
    refine mV hTT (.d (.one (.v (.bool false)))) rfl ?_
    refine mNil ?_
    refine tN ?_
    refine cF rfl ?_
    refine cSkip ?_
    refine tN ?_
    refine cSeq ?_
    refine cSeq ?_
    refine cReg ?_
    refine mV hTT _ rfl ?_
    refine mV hTT _ rfl ?_
    refine mX (.d (.one (.v (.int .i64 (ByteArray.size b : Int))))) (xLen (b := b) rfl rfl rfl rfl Try.underlying9 rfl) ?_
    refine mV hTT (.d (.one (.v (.bool true)))) (evb (beq_self_eq_true _)) ?_
    refine mNil ?_
    refine tN ?_
    refine cT rfl ?_
    refine cSeq ?_
    refine cDrawK hTT 3 (by kernel_rfl) (by kernel_rfl) (by kernel_rfl) ?_
    refine .cons (OpS.V (.d (.agg (rn 401 (pvl (ByteArray.extract b 0 (ByteArray.size b)))))) rfl) ?_
    refine .cons (OpS.C0 (aROf (n := 1) (by decide) (by decide)) rfl rfl rfl) ?_
    refine .cons (OpS.C0 (aRMake (isr 401 (pvl (ByteArray.extract b 0 (ByteArray.size b)))) (isr 64 1) (M := 401) (by decide) (by decide)) rfl rfl rfl) ?_
    refine .nil ?_
    refine mS hTT 2 (.box 40 (qn 401 (mkR (pvl (ByteArray.extract b 0 (ByteArray.size b))) 1))) rfl ?_
    refine mV hTT _ rfl ?_
    refine mNil ?_
    refine tN ?_
    refine cRet ?_
    refine tR ?_
    exact rQ rfl (le_tup (dl (dle (le_qn (Nat.le_refl _) (by rw [hea]))) (dl DV.same dl0)))

set_option maxRecDepth 100000 in
set_option maxHeartbeats 4000000 in
theorem aRPBadI {b : ByteArray} (hb : b.size ≤ 1000000) (hk1 : ∀ i, i < b.size → sb b i ≠ 47) (hl : ¬ okT b) : ACall Try.prog 25 [.one (.v (.string b))] (.tup [.agg [.v (.slice none 0 0), .v (.bool false), .v (.slice none 0 0), .v (.bool false)], .one (.v (.int .i64 4))]) := by
  have hea := ext_all b
  refine acallN hTT 61 [.cell 2 40, .tmp 3] Try.func25 rfl rfl rfl rfl rfl ?_
  refine cSeq ?_
  refine cReg ?_
  refine mN hTT (.box 40 ([.v (.slice none 0 0), .v (.bool false), .v (.slice none 0 0), .v (.bool false)])) rfl rfl rfl ?_
  refine mV hTT _ rfl ?_
  refine mNil ?_
  refine tN ?_
  refine cSeq ?_
  refine cReg ?_
  refine mV hTT _ rfl ?_
  refine mNil ?_
  refine tN ?_
  refine cSeq ?_
  refine cBlock ?_
  refine cLoop (ι := Nat) (fun (i : Nat) => ⟨61, [(0, .d (.one (.v (.string b)))), (2, .ptr 2 0), (3, .d (.one (.v (.int .i64 0)))), (4, .d (.one (.v (.int .i64 ((i : Nat) : Int)))))], [(2, .box 40 ([.v (.slice none 0 0), .v (.bool false), .v (.slice none 0 0), .v (.bool false)]))]⟩) (fun (i : Nat) => i ≤ b.size) (fun (i : Nat) => b.size - i) 0 (Nat.zero_le _) (wk (sl := [(0, .d (.one (.v (.string b)))), (2, .ptr 2 0), (3, .d (.one (.v (.int .i64 0)))), (4, .d (.one (.v (.int .i64 ((0 : Nat) : Int)))))]) (hp := [(2, .box 40 ([.v (.slice none 0 0), .v (.bool false), .v (.slice none 0 0), .v (.bool false)]))]) rfl ⟨hs rfl, hs rfl, hs rfl, hs' rfl (le_int rfl), trivial⟩ ⟨ho rfl, trivial⟩ rfl) ?_
  rintro i hI
  have hi : i ≤ b.size := hI
  show AW Try.prog _ _ ⟨61, [(0, .d (.one (.v (.string b)))), (2, .ptr 2 0), (3, .d (.one (.v (.int .i64 0)))), (4, .d (.one (.v (.int .i64 ((i : Nat) : Int)))))], [(2, .box 40 ([.v (.slice none 0 0), .v (.bool false), .v (.slice none 0 0), .v (.bool false)]))]⟩
  refine cSeq ?_
  refine cSeq ?_
  by_cases hik : i < b.size
  · skip
    refine cReg ?_
    refine mV hTT _ rfl ?_
    refine mV hTT _ rfl ?_
    refine mX (.d (.one (.v (.int .i64 (ByteArray.size b : Int))))) (xLen (b := b) rfl rfl rfl rfl Try.underlying9 rfl) ?_
    refine mV hTT (.d (.one (.v (.bool true)))) (evb (decide_eq_true (by omega))) ?_
    refine mV hTT _ rfl ?_
    refine mV hTT _ rfl ?_
    refine mV hTT _ rfl ?_
    refine mX (.d (.one (.v (.int .u8 (sb b i : Int))))) (xIx (b := b) (z := ((i : Nat) : Int)) rfl Try.underlying9 rfl rfl (by omega) (by omega)) ?_
    refine mV hTT (.d (.one (.v (.bool true)))) (evb (bne_iff_ne.2 fun e => hk1 i (by omega) (by omega))) ?_
    refine mV hTT _ rfl ?_
    refine mNil ?_
    refine tN ?_
    refine cT rfl ?_
    refine cSkip ?_
    refine tN ?_
    refine cBlock ?_
    refine cReg ?_
    refine mV hTT _ rfl ?_
    refine mV hTT (.d (.one (.v (.int .i64 (IntKind.i64.wrap (((i : Nat) : Int) + 1)))))) rfl ?_
    refine mV hTT _ rfl ?_
    refine mNil ?_
    refine bN ?_
    exact ⟨(i + 1), by omega, by omega, wk (sl := [(0, .d (.one (.v (.string b)))), (2, .ptr 2 0), (3, .d (.one (.v (.int .i64 0)))), (4, .d (.one (.v (.int .i64 (((i + 1) : Nat) : Int)))))]) (hp := [(2, .box 40 ([.v (.slice none 0 0), .v (.bool false), .v (.slice none 0 0), .v (.bool false)]))]) rfl ⟨hs rfl, hs rfl, hs rfl, hs' rfl (le_int ((wr64 (by omega) (by omega)).trans (by omega))), trivial⟩ ⟨ho rfl, trivial⟩ rfl⟩
  · skip
    refine cReg ?_
    refine mV hTT _ rfl ?_
    refine mV hTT _ rfl ?_
    refine mX (.d (.one (.v (.int .i64 (ByteArray.size b : Int))))) (xLen (b := b) rfl rfl rfl rfl Try.underlying9 rfl) ?_
    refine mV hTT (.d (.one (.v (.bool false)))) (evb (decide_eq_false (by omega))) ?_
    refine mV hTT _ rfl ?_
    refine mG rfl rfl ?_
    refine mG rfl rfl ?_
    refine mG rfl rfl ?_
    refine mG rfl rfl ?_
    refine mV hTT _ rfl ?_
    refine mNil ?_
    refine tN ?_
    refine cF rfl ?_
    refine cExit ?_
    refine tE ?_
    refine tE ?_
    refine bE ?_
    refine tN ?_
    refine cSeq ?_
    have hie : i = b.size := by omega
    refine cView 4 (.d (.one (.v (.int .i64 ((ByteArray.size b : Nat) : Int))))) rfl (le_int (by rw [hie])) ?_
    refine cReg ?_
    refine mV hTT _ rfl ?_
    refine mV hTT _ rfl ?_
    refine mX (.d (.one (.v (.string (ByteArray.extract b 0 (ByteArray.size b)))))) (xSl (b := b) (l' := 0) (h' := (ByteArray.size b)) rfl Try.underlying9 rfl rfl (bndN rfl) (Nat.zero_le _) (Nat.le_refl _)) ?_
    refine mC0 (aRBad (b := (ByteArray.extract b 0 (ByteArray.size b))) (by rw [hea]; exact hl)) rfl rfl rfl ?_
    refine mV hTT _ rfl ?_
    refine mV hTT _ rfl ?_
    refine mV hTT _ rfl ?_
    refine mN hTT (.box 34 ([.v (.slice none 0 0), .v (.bool false)])) rfl rfl rfl ?_
    refine mS hTT 5 (.box 34 ([.v (.slice none 0 0), .v (.bool false)])) rfl ?_
    refine mV hTT _ rfl ?_
    refine mNil ?_
    refine tN ?_
    refine cSeq ?_
    refine cSeq ?_
    refine cReg ?_
    refine mV hTT _ rfl ?_
    refine mV hTT (.d (.one (.v (.bool true)))) rfl ?_
    refine mNil ?_
    refine tN ?_
    refine cT rfl ?_
    refine cSeq ?_
    refine cReg ?_
    refine mV hTT (.d (.agg ([.v (.slice none 0 0), .v (.bool false), .v (.slice none 0 0), .v (.bool false)]))) rfl ?_
    refine mS hTT 2 (.box 40 ([.v (.slice none 0 0), .v (.bool false), .v (.slice none 0 0), .v (.bool false)])) rfl ?_
    refine mV hTT _ rfl ?_
    refine mNil ?_
    refine tN ?_
    refine cRet ?_
    refine tR ?_
    exact rQ rfl (AV.le.rfl)

set_option maxRecDepth 100000 in
set_option maxHeartbeats 4000000 in
theorem aIs4 {a b : List Lf} {K L : Nat} {q : Rat} (ha : IsQ a K q) (hb : IsTN b L q) (hK : K ≤ 1000000000 := by decide) (hL : L ≤ 1000000000 := by decide) : ACall Try.prog 18 [.agg a, .agg b] (.d (.one (.v (.bool true)))) := by
  refine ACall.le (dl (DV.g ha) (dl (DV.g hb) dl0)) AV.le.rfl ?_
  refine acallN hTT 8 [.tmp 4] Try.func18 rfl rfl rfl rfl rfl ?_
  refine cSeq ?_
  refine cReg ?_
  refine mN hTT (.box 40 (qn K q)) rfl rfl rfl ?_
  refine mN hTT (.box 27 (tn L q)) rfl rfl rfl ?_
  refine mV hTT _ rfl ?_
  refine mNil ?_
  refine tN ?_
  refine cSeq ?_
  refine cReg ?_
  refine mV hTT (.d (.agg (qn K q))) rfl ?_
  refine mV hTT (.d (.agg (tn L q))) rfl ?_
  refine mC0 (aRSameR (isq K q) (istn L q) (by omega) (by omega)) rfl rfl rfl ?_
  refine mV hTT _ rfl ?_
  refine mNil ?_
  refine tN ?_
  refine cRet ?_
  exact rQ rfl (AV.le.rfl)

set_option maxRecDepth 100000 in
set_option maxHeartbeats 4000000 in
theorem aOf4 {K k M : Nat} {s t : Bool} {xs ys : List Nat} (hk : k ≤ 1000 := by decide) (hM : max (3 * k) 64 ≤ M := by decide) (hK : K ≤ 9223372036854775807 := by decide) : ACall Try.prog 26 [.agg (tan K s xs t ys), .one (.v (.int .i64 (k : Int)))] (.tup [.agg (tan k s (xs.take k) t (ys.take k)), .agg (qn M (mkR (zv s (val (xs.take k))) (zv t (val (ys.take k)))))]) := by
  refine acallN hTT 12 [.cell 4 27, .cell 5 40] Try.func26 rfl rfl rfl rfl rfl ?_
  refine cSeq ?_
  refine cReg ?_
  refine mN hTT (.box 27 ([.v (.bool s), lr K xs] ++ [.v (.bool t), lr K ys])) rfl rfl rfl ?_
  refine mN hTT (.box 27 ([.v (.bool false), .v (.slice none 0 0), .v (.bool false), .v (.slice none 0 0)])) rfl rfl rfl ?_
  refine mN hTT (.box 40 ([.v (.slice none 0 0), .v (.bool false), .v (.slice none 0 0), .v (.bool false)])) rfl rfl rfl ?_
  refine mNil ?_
  refine tN ?_
  refine cSeq ?_
  refine cReg ?_
  refine mV hTT (.d (.agg ([.v (.bool s), lr K xs] ++ [.v (.bool t), lr K ys]))) rfl ?_
  refine mV hTT _ rfl ?_
  refine mC0 (aKRat (K := K) (k := k) (s := s) (t := t) (xs := xs) (ys := ys) (by omega) (by omega)) rfl rfl rfl ?_
  refine mS hTT 2 (.box 27 ([.v (.bool s), lr k (xs.take k)] ++ [.v (.bool t), lr k (ys.take k)])) rfl ?_
  refine mNil ?_
  refine tN ?_
  refine cSeq ?_
  refine cDrawK hTT 3 (by kernel_rfl) (by kernel_rfl) (by kernel_rfl) ?_
  refine .cons (OpS.V (.d (.agg ([.v (.bool s), lr k (xs.take k)] ++ [.v (.bool t), lr k (ys.take k)]))) rfl) ?_
  refine .cons (OpS.V (.d (.agg ([.v (.bool s), lr k (xs.take k)] ++ [.v (.bool t), lr k (ys.take k)]))) rfl) ?_
  refine .cons (OpS.C0 (aRFromR (⟨s, (xs.take k), t, (ys.take k), fun _ _ _ h => h, rfl, rfl⟩ : IsT ([.v (.bool s), lr k (xs.take k)] ++ [.v (.bool t), lr k (ys.take k)]) k (zv s (val (xs.take k))) (zv t (val (ys.take k)))) (M := (max (3 * k) 64)) (by omega) (by omega)) rfl rfl rfl) ?_
  refine .nil ?_
  refine mS hTT 4 (.box 27 ([.v (.bool s), lr k (xs.take k)] ++ [.v (.bool t), lr k (ys.take k)])) rfl ?_
  refine mS hTT 5 (.box 40 (qn (max (3 * k) 64) (mkR (zv s (val (xs.take k))) (zv t (val (ys.take k)))))) rfl ?_
  refine mNil ?_
  refine tN ?_
  refine cRet ?_
  exact rQ rfl (le_tup (dl DV.same (dl (dle (le_qn (by omega) rfl)) dl0)))

theorem t64_l : okT (ByteArray.extract ⟨#[54, 47, 52]⟩ 0 1) := by unfold okT okD; decide +kernel
theorem t64_r : okT (ByteArray.extract ⟨#[54, 47, 52]⟩ (1 + 1) (ByteArray.size ⟨#[54, 47, 52]⟩)) := by unfold okT okD; decide +kernel
theorem t64_n : isneg (ByteArray.extract ⟨#[54, 47, 52]⟩ (1 + 1) (ByteArray.size ⟨#[54, 47, 52]⟩)) = false := by decide +kernel
theorem t64_v : pvl (ByteArray.extract ⟨#[54, 47, 52]⟩ 0 1) = 6 := by decide +kernel
theorem t64_w : pvl (ByteArray.extract ⟨#[54, 47, 52]⟩ (1 + 1) (ByteArray.size ⟨#[54, 47, 52]⟩)) = 4 := by decide +kernel
theorem t64_0 : ∀ i : Nat, i < 1 → sb ⟨#[54, 47, 52]⟩ i ≠ 47 := by decide +kernel
theorem aTP64 : ACall Try.prog 24 [.one (.v (.string ⟨#[54, 47, 52]⟩))] (.tup [.agg (tn 1201 (Rat.divInt 6 4)), .one (.v (.int .i64 0))]) := by
  have h := aTPFrac (b := ⟨#[54, 47, 52]⟩) (k := 1) (by decide) (by decide) t64_0 (by decide +kernel) t64_l t64_n t64_r (by rw [t64_w]; decide)
  rw [t64_v, t64_w] at h
  exact h
set_option maxRecDepth 100000 in
set_option maxHeartbeats 4000000 in
theorem aWakes4 : ACall Try.prog 21 [] (.d (.one (.v (.bool true)))) := by
  refine acallN hTT 29 [.tmp 0] Try.func21 rfl rfl rfl rfl rfl ?_
  refine cSeq ?_
  refine cReg ?_
  refine mV hTT _ rfl ?_
  refine mNil ?_
  refine tN ?_
  refine cSeq ?_
  refine cReg ?_
  refine mC0 (aTOf (n := 2) (d := (-4)) (by decide) (by decide) (by decide) (by decide) (by decide)) rfl rfl rfl ?_
  refine mV hTT _ rfl ?_
  refine mV hTT _ rfl ?_
  refine mV hTT _ rfl ?_
  refine mN hTT (.box 27 ([.v (.bool false), .v (.slice none 0 0), .v (.bool false), .v (.slice none 0 0)])) rfl rfl rfl ?_
  refine mS hTT 1 (.box 27 (tn 3 (Rat.divInt 2 (-4)))) rfl ?_
  refine mV hTT _ rfl ?_
  refine mNil ?_
  refine tN ?_
  refine cSeq ?_
  refine cReg ?_
  refine mC0 (aTP64) rfl rfl rfl ?_
  refine mV hTT _ rfl ?_
  refine mV hTT _ rfl ?_
  refine mV hTT _ rfl ?_
  refine mN hTT (.box 27 ([.v (.bool false), .v (.slice none 0 0), .v (.bool false), .v (.slice none 0 0)])) rfl rfl rfl ?_
  refine mS hTT 3 (.box 27 (tn 1201 (Rat.divInt 6 4))) rfl ?_
  refine mV hTT _ rfl ?_
  refine mNil ?_
  refine tN ?_
  refine cSeq ?_
  refine cDrawK hTT 17 (by kernel_rfl) (by kernel_rfl) (by kernel_rfl) ?_
  refine .cons (OpS.V _ rfl) ?_
  refine .cons (OpS.V (.d (.one (.v (.bool true)))) rfl) ?_
  refine .cons (OpS.V _ rfl) ?_
  refine .cons (OpS.V _ rfl) ?_
  refine .cons (OpS.V (.d (.one (.v (.bool true)))) rfl) ?_
  refine .cons (OpS.V _ rfl) ?_
  refine .cons (OpS.V _ rfl) ?_
  refine .cons (OpS.C0 (aROfR (n := (-1)) (d := 2) (by decide) (by decide) (by decide) (by decide)) rfl rfl rfl) ?_
  refine .cons (OpS.V (.d (.agg (tn 3 (Rat.divInt 2 (-4))))) rfl) ?_
  refine .cons (OpS.C0 (aIs4 (IsQ.eq (isq 64 (mkR (-1) 2)) (by decide +kernel)) (istn 3 (Rat.divInt 2 (-4))) (by decide) (by decide)) rfl rfl rfl) ?_
  refine .cons (OpS.V _ rfl) ?_
  refine .cons (OpS.V _ rfl) ?_
  refine .cons (OpS.C0 (aROfR (n := 3) (d := 2) (by decide) (by decide) (by decide) (by decide)) rfl rfl rfl) ?_
  refine .cons (OpS.V (.d (.agg (tn 1201 (Rat.divInt 6 4)))) rfl) ?_
  refine .cons (OpS.C0 (aIs4 (IsQ.eq (isq 64 (mkR 3 2)) (by decide +kernel)) (istn 1201 (Rat.divInt 6 4)) (by decide) (by decide)) rfl rfl rfl) ?_
  refine .cons (OpS.V _ rfl) ?_
  refine .cons (OpS.V _ rfl) ?_
  refine .nil ?_
  refine mNil ?_
  refine tN ?_
  refine cRet ?_
  exact rQ rfl (AV.le.rfl)

end Go.Proofs.Ytmfmeecnieblpaa

