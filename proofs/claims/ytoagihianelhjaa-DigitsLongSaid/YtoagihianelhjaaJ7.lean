/-
  PLAIN LAW of chapter 3 (3): digits without noughts ahead are printed as they were read. No condition; nothing of the program.
-/
import Derived.Test.YtoagihianelhjaaJ5
import Derived.Test.YtoagihianelhjaaJ6
set_option linter.unusedVariables false
set_option linter.unusedSimpArgs false
namespace Go.Proofs.Ytoagihianelhjaa
open Go.RowKit

theorem canon_key {b : ByteArray} (hd : ∀ i, i < b.size → isDg b i) (h0 : sb b 0 ≠ 48) : ∀ k, k + 1 ≤ b.size → dvl b (k + 1) ≠ 0 ∧ (digs 10 (dvl b (k + 1))).reverse.map (· + 48) = (List.range (k + 1)).map (sb b)
  | 0, hk => by
    have h1 := hd 0 (by omega)
    unfold isDg at h1
    have e : dvl b (0 + 1) = sb b 0 - 48 := by show 0 * 10 + (sb b 0 - 48) = _; omega
    rw [e]
    have hne : sb b 0 - 48 ≠ 0 := by omega
    refine ⟨hne, ?_⟩
    rw [digs_pos (by decide) hne, show (sb b 0 - 48) / 10 = 0 by omega, show (sb b 0 - 48) % 10 = sb b 0 - 48 by omega]
    show [sb b 0 - 48 + 48] = [sb b 0]
    rw [show sb b 0 - 48 + 48 = sb b 0 by omega]
  | k + 1, hk => by
    obtain ⟨h1, h2⟩ := canon_key hd h0 k (by omega)
    have h3 := hd (k + 1) (by omega)
    unfold isDg at h3
    have e : dvl b (k + 1 + 1) = dvl b (k + 1) * 10 + (sb b (k + 1) - 48) := rfl
    rw [e]
    have hne : dvl b (k + 1) * 10 + (sb b (k + 1) - 48) ≠ 0 := by omega
    refine ⟨hne, ?_⟩
    rw [digs_pos (by decide) hne, show (dvl b (k + 1) * 10 + (sb b (k + 1) - 48)) / 10 = dvl b (k + 1) by omega, show (dvl b (k + 1) * 10 + (sb b (k + 1) - 48)) % 10 = sb b (k + 1) - 48 by omega]
    rw [List.reverse_cons, List.map_append, h2, List.range_succ (n := k + 1), List.map_append]
    show _ ++ [sb b (k + 1) - 48 + 48] = _ ++ [sb b (k + 1)]
    rw [show sb b (k + 1) - 48 + 48 = sb b (k + 1) by omega]
theorem canon {b : ByteArray} (hd : ∀ i, i < b.size → isDg b i) (h1 : 1 ≤ b.size) (h0 : sb b 0 ≠ 48) {z : Int} (hz : z.natAbs = dvl b b.size) : mkS (dgL z) = b := by
  obtain ⟨k, hk⟩ : ∃ k, b.size = k + 1 := ⟨b.size - 1, by omega⟩
  obtain ⟨h2, h3⟩ := canon_key hd h0 k (by omega)
  rw [← hk, ← hz] at h2
  rw [← hk, ← hz, hk] at h3
  have e : dgL z = (List.range (k + 1)).map (sb b) := by
    unfold dgL
    rw [if_neg (by omega), h3]
  refine bytes_ext (by rw [size_mkS, e, List.length_map, List.length_range, hk]) fun i hi => ?_
  rw [size_mkS] at hi
  rw [sb_mkS (dgL_lt z) hi, e]
  rw [e, List.length_map, List.length_range] at hi
  rw [List.getD_eq_getElem?_getD, List.getElem?_map, List.getElem?_range hi]; rfl
/-- The digits 1 2 .. 9 1 2 .. -/
def ob1 (x : Nat) : ByteArray := ⟨#[UInt8.ofNat x]⟩
def lg : Nat → ByteArray
  | 0 => ⟨#[]⟩
  | i + 1 => lg i ++ ob1 (49 + i % 9)
theorem lg_size : ∀ n, (lg n).size = n
  | 0 => rfl
  | n + 1 => by show (lg n ++ ob1 _).size = _; rw [size_app, lg_size n]; rfl
theorem ob1_sb {x : Nat} (h : x < 256) : sb (ob1 x) 0 = x := by
  show (UInt8.ofNat x).toNat = x
  rw [UInt8.toNat_ofNat']; omega
theorem lg_sb : ∀ n i, i < n → sb (lg n) i = 49 + i % 9
  | n + 1, i, h => by
    show sb (lg n ++ ob1 _) i = _
    by_cases e : i < n
    · rw [sb_appL (by rw [lg_size]; exact e), lg_sb n i e]
    · obtain rfl : i = n := by omega
      rw [sb_appR (by rw [lg_size]; omega), lg_size, Nat.sub_self, ob1_sb (by omega)]
theorem lg_dg (n : Nat) : ∀ i, i < (lg n).size → isDg (lg n) i := fun i hi => by
  rw [lg_size] at hi
  unfold isDg
  rw [lg_sb n i hi]; omega
def lgs (neg : Bool) (n : Nat) : ByteArray := if neg then (⟨#[45]⟩ : ByteArray) ++ lg n else lg n
theorem lgs_body {n : Nat} (hn : 1 ≤ n) (neg : Bool) : isneg (lgs neg n) = neg ∧ body (lgs neg n) = lg n := by
  cases neg with
  | true => exact body_neg _
  | false => exact body_dg (b := lg n) (by rw [lg_size]; exact hn) (lg_dg n 0 (by rw [lg_size]; omega))
theorem lgs_ok {n : Nat} {neg : Bool} (h1 : 1 ≤ n) (h2 : n ≤ 400) : okT (lgs neg n) := by
  unfold okT
  rw [(lgs_body h1 neg).2]
  exact ⟨by rw [lg_size]; exact h1, by rw [lg_size]; exact h2, lg_dg n⟩
theorem lgs_bad {n : Nat} {neg : Bool} (h2 : 400 < n) : ¬ okT (lgs neg n) := by
  unfold okT
  rw [(lgs_body (by omega) neg).2]
  intro h
  have h3 := h.2.1
  rw [lg_size] at h3
  omega
def lgv (neg : Bool) (n : Nat) : Int := zv neg (dvl (lg n) n)
theorem lgs_pvl {n : Nat} {neg : Bool} (h1 : 1 ≤ n) : pvl (lgs neg n) = lgv neg n := by
  unfold pvl lgv
  rw [(lgs_body h1 neg).1, (lgs_body h1 neg).2, lg_size]
theorem lgs_txt {n : Nat} {neg : Bool} (h1 : 1 ≤ n) : txt (lgv neg n) = lgs neg n := by
  have h0 : sb (lg n) 0 ≠ 48 := by rw [lg_sb n 0 (by omega)]; decide
  have hne : dvl (lg n) n ≠ 0 := by
    have h2 := (canon_key (lg_dg n) h0 (n - 1) (by rw [lg_size]; omega)).1
    rwa [show n - 1 + 1 = n by omega] at h2
  have hm : mkS (dgL (lgv neg n)) = lg n := canon (lg_dg n) (by rw [lg_size]; exact h1) h0 (by unfold lgv; rw [zv_abs, lg_size])
  rw [txt_body, hm]
  unfold lgs lgv zv
  cases neg with
  | true => rw [if_pos (by simp; omega)]; rfl
  | false => rw [if_neg (by simp)]; rfl
end Go.Proofs.Ytoagihianelhjaa

/-
  DIGITS, as many as may be, and one more, by the machine.
-/
set_option linter.unusedVariables false
set_option linter.unusedSimpArgs false
namespace Go.Proofs.Ytoagihianelhjaa
open Go.RowKit

theorem aDPl {n : Nat} {neg : Bool} (h1 : 1 ≤ n) (h2 : n ≤ 400) : ACall Try.prog 13 [.one (.v (.string (lgs neg n)))] (.tup [.agg (zn 1200 (lgv neg n)), .one (.v (.int .i64 0))]) := by
  have h := aDParse (lgs_ok (neg := neg) h1 h2)
  rw [lgs_pvl h1] at h
  exact h
set_option maxRecDepth 100000 in
set_option maxHeartbeats 4000000 in
theorem aDigitsLong {v : Int} {neg : Bool} (hv1 : -9223372036854775808 ≤ v) (hv2 : v ≤ 9223372036854775807) : ACall Try.prog 7 [.one (.v (.int .i64 v)), .one (.v (.bool neg))] (.d (.one (.v (.bool true)))) := by
  refine acallN hTT 55 [.tmp 4] Try.func7 rfl rfl rfl rfl rfl ?_
  refine cSeq ?_
  refine cReg ?_
  refine mV hTT _ rfl ?_
  refine mNil ?_
  refine tN ?_
  refine cSeq ?_
  refine cReg ?_
  refine mV hTT _ rfl ?_
  refine mC0 (aWithin (v := v) (n := 6) (by decide) (by decide) hv1 hv2) rfl rfl rfl ?_
  refine mV hTT (.d (.one (.v (.int .i64 (397 + v % 6))))) (evi (wr64 (by omega) (by omega))) ?_
  refine mV hTT _ rfl ?_
  refine mNil ?_
  refine tN ?_
  refine cSeq ?_
  obtain ⟨m, hm⟩ : ∃ m : Nat, (m : Int) = 397 + v % 6 := ⟨(397 + v % 6).toNat, by omega⟩
  refine cView 0 (.d (.one (.v (.int .i64 ((m : Nat) : Int))))) rfl (le_int hm.symm) ?_
  refine cReg ?_
  refine mV hTT _ rfl ?_
  refine mNil ?_
  refine tN ?_
  refine cSeq ?_
  refine cSeq ?_
  refine cReg ?_
  refine mV hTT _ rfl ?_
  refine mNil ?_
  refine tN ?_
  refine cBlock ?_
  refine cLoop (ι := Nat) (fun (i : Nat) => ⟨55, [(0, .d (.one (.v (.int .i64 ((m : Nat) : Int))))), (1, .d (.one (.v (.bool neg)))), (4, .d (.one (.v (.bool false)))), (5, .d (.one (.v (.string (lg i))))), (6, .d (.one (.v (.int .i64 ((i : Nat) : Int)))))], []⟩) (fun (i : Nat) => i ≤ m) (fun (i : Nat) => m - i) 0 (Nat.zero_le _) (wk (sl := [(0, .d (.one (.v (.int .i64 ((m : Nat) : Int))))), (1, .d (.one (.v (.bool neg)))), (4, .d (.one (.v (.bool false)))), (5, .d (.one (.v (.string (lg 0))))), (6, .d (.one (.v (.int .i64 ((0 : Nat) : Int)))))]) (hp := []) rfl ⟨hs rfl, hs rfl, hs rfl, hs rfl, hs' rfl (le_int rfl), trivial⟩ trivial rfl) ?_
  rintro i hI
  have hi : i ≤ m := hI
  show AW Try.prog _ _ ⟨55, [(0, .d (.one (.v (.int .i64 ((m : Nat) : Int))))), (1, .d (.one (.v (.bool neg)))), (4, .d (.one (.v (.bool false)))), (5, .d (.one (.v (.string (lg i))))), (6, .d (.one (.v (.int .i64 ((i : Nat) : Int)))))], []⟩
  refine cSeq ?_
  refine cSeq ?_
  refine cReg ?_
  refine mV hTT _ rfl ?_
  refine mV hTT _ rfl ?_
  refine mV hTT (.d (.one (.v (.bool (decide (((i : Nat) : Int) < ((m : Nat) : Int))))))) rfl ?_
  refine mNil ?_
  refine tN ?_
  refine cCond rfl (fun hc1 => ?_) (fun hc1 => ?_)
  · skip
    refine cSkip ?_
    refine tN ?_
    refine cSeq ?_
    refine cBlock ?_
    have him : i < m := by have h0 := of_decide_eq_true hc1; omega
    refine cReg ?_
    refine mV hTT _ rfl ?_
    refine mV hTT _ rfl ?_
    refine mV hTT (.d (.one (.v (.int .i64 ((i % 9 : Nat) : Int))))) rfl ?_
    refine mV hTT (.d (.one (.v (.int .i64 ((49 + i % 9 : Nat) : Int))))) (evi ((wr64 (by omega) (by omega)).trans (by omega))) ?_
    refine mV hTT (.d (.one (.v (.int .u8 ((49 + i % 9 : Nat) : Int))))) (evi (wr8 (by omega) (by omega))) ?_
    refine mB hTT (.d (.one (.row 1 1 (fun i' j' => (([.v (.int .u8 ((49 + i % 9 : Nat) : Int))])[i' * 1 + j']?).getD (.v undef))))) rfl ?_
    refine mX (.d (.one (.v (.string (ob1 (49 + i % 9)))))) (xStr (ob1 (49 + i % 9)) rfl Try.underlying55 Try.underlying5 Try.underlying9 rfl rfl (fun j hj => by obtain rfl : j = 0 := (by omega); show Lf.v (.int .u8 ((49 + i % 9 : Nat) : Int)) = _; rw [ob1_sb (by omega)])) ?_
    refine mV hTT (.d (.one (.v (.string (lg (i + 1)))))) (evcat rfl rfl rfl (by rw [lg_size]; show i + 1 ≤ _; omega)) ?_
    refine mV hTT _ rfl ?_
    refine mNil ?_
    refine bN ?_
    refine tN ?_
    refine cReg ?_
    refine mV hTT _ rfl ?_
    refine mV hTT (.d (.one (.v (.int .i64 ((i + 1 : Nat) : Int))))) (evi ((wr64 (by omega) (by omega)).trans (by omega))) ?_
    refine mV hTT _ rfl ?_
    refine mNil ?_
    exact ⟨(i + 1), by omega, by omega, wk (sl := [(0, .d (.one (.v (.int .i64 ((m : Nat) : Int))))), (1, .d (.one (.v (.bool neg)))), (4, .d (.one (.v (.bool false)))), (5, .d (.one (.v (.string (lg (i + 1)))))), (6, .d (.one (.v (.int .i64 (((i + 1) : Nat) : Int)))))]) (hp := []) rfl ⟨hs rfl, hs rfl, hs rfl, hs rfl, hs rfl, trivial⟩ trivial rfl⟩
  · skip
    refine cExit ?_
    refine tE ?_
    refine tE ?_
    refine bE ?_
    refine tN ?_
    refine cSeq ?_
    refine cSeq ?_
    have hie : i = m := by have h0 := of_decide_eq_false hc1; omega
    refine cView 5 (.d (.one (.v (.string (lg m))))) rfl (le_str (by rw [hie])) ?_
    cases neg
    · skip
      refine cReg ?_
      refine mV hTT _ rfl ?_
      refine mNil ?_
      refine tN ?_
      refine cF rfl ?_
      refine cSkip ?_
      refine tN ?_
      refine cSeq ?_
      refine cView 5 (.d (.one (.v (.string (lgs false m))))) rfl (le_str rfl) ?_
      by_cases hm4 : 400 < m
      · skip
        refine cReg ?_
        refine mV hTT _ rfl ?_
        refine mC0 (aDBad (b := (lgs false m)) (lgs_bad (by omega))) rfl rfl rfl ?_
        refine mV hTT _ rfl ?_
        refine mV hTT _ rfl ?_
        refine mV hTT _ rfl ?_
        refine mN hTT (.box 24 ([.v (.bool false), .v (.slice none 0 0)])) rfl rfl rfl ?_
        refine mS hTT 7 (.box 24 ([.v (.bool false), .v (.slice none 0 0)])) rfl ?_
        refine mV hTT _ rfl ?_
        refine mNil ?_
        refine tN ?_
        refine cSeq ?_
        refine cSeq ?_
        refine cReg ?_
        refine mV hTT _ rfl ?_
        refine mV hTT (.d (.one (.v (.bool true)))) (evb (decide_eq_true (by omega))) ?_
        refine mNil ?_
        refine tN ?_
        refine cT rfl ?_
        refine cSeq ?_
        refine cReg ?_
        refine mV hTT _ rfl ?_
        refine mV hTT (.d (.one (.v (.bool true)))) rfl ?_
        refine mV hTT _ rfl ?_
        refine mV hTT (.d (.agg ([.v (.bool false), .v (.slice none 0 0)]))) rfl ?_
        refine mC0 (aZero isn_nil) rfl rfl rfl ?_
        refine mView 39 (.d (.one (.v (.bool true)))) rfl (le_bool (decide_eq_true rfl)) ?_
        refine mV hTT _ rfl ?_
        refine mV hTT _ rfl ?_
        refine mC0 (aWakes3) rfl rfl rfl ?_
        refine mV hTT _ rfl ?_
        refine mV hTT _ rfl ?_
        refine mNil ?_
        refine tN ?_
        refine cRet ?_
        refine tR ?_
        exact rQ rfl (AV.le.rfl)
      · skip
        refine cReg ?_
        refine mV hTT _ rfl ?_
        refine mC0 (aDPl (n := m) (neg := false) (by omega) (by omega)) rfl rfl rfl ?_
        refine mV hTT _ rfl ?_
        refine mV hTT _ rfl ?_
        refine mV hTT _ rfl ?_
        refine mN hTT (.box 24 ([.v (.bool false), .v (.slice none 0 0)])) rfl rfl rfl ?_
        refine mS hTT 7 (.box 24 (zn 1200 (lgv false m))) rfl ?_
        refine mV hTT _ rfl ?_
        refine mNil ?_
        refine tN ?_
        refine cSeq ?_
        refine cSeq ?_
        refine cReg ?_
        refine mV hTT _ rfl ?_
        refine mV hTT (.d (.one (.v (.bool false)))) (evb (decide_eq_false (by omega))) ?_
        refine mNil ?_
        refine tN ?_
        refine cF rfl ?_
        refine cSkip ?_
        refine tN ?_
        refine cSeq ?_
        refine cReg ?_
        refine mV hTT _ rfl ?_
        refine mV hTT (.d (.one (.v (.bool true)))) rfl ?_
        refine mV hTT _ rfl ?_
        refine mV hTT (.d (.agg (zn 1200 (lgv false m)))) rfl ?_
        refine mC0 (aDText (isz 1200 (lgv false m)) (by decide)) rfl rfl rfl ?_
        refine mV hTT _ rfl ?_
        refine mV hTT (.d (.one (.v (.bool true)))) (evb (by rw [lgs_txt (by omega)]; exact beq_self_eq_true _)) ?_
        refine mV hTT _ rfl ?_
        refine mV hTT _ rfl ?_
        refine mC0 (aWakes3) rfl rfl rfl ?_
        refine mV hTT _ rfl ?_
        refine mV hTT _ rfl ?_
        refine mNil ?_
        refine tN ?_
        refine cRet ?_
        exact rQ rfl (AV.le.rfl)
    · skip
      refine cReg ?_
      refine mV hTT _ rfl ?_
      refine mNil ?_
      refine tN ?_
      refine cT rfl ?_
      refine cReg ?_
      refine mV hTT _ rfl ?_
      refine mV hTT (.d (.one (.v (.string (⟨#[45]⟩ ++ (lg m)))))) (evcat rfl rfl rfl (by rw [lg_size]; show 1 + m ≤ _; omega)) ?_
      refine mV hTT _ rfl ?_
      refine mNil ?_
      refine tN ?_
      refine cSeq ?_
      refine cView 5 (.d (.one (.v (.string (lgs true m))))) rfl (le_str rfl) ?_
      by_cases hm4 : 400 < m
      · skip
        refine cReg ?_
        refine mV hTT _ rfl ?_
        refine mC0 (aDBad (b := (lgs true m)) (lgs_bad (by omega))) rfl rfl rfl ?_
        refine mV hTT _ rfl ?_
        refine mV hTT _ rfl ?_
        refine mV hTT _ rfl ?_
        refine mN hTT (.box 24 ([.v (.bool false), .v (.slice none 0 0)])) rfl rfl rfl ?_
        refine mS hTT 7 (.box 24 ([.v (.bool false), .v (.slice none 0 0)])) rfl ?_
        refine mV hTT _ rfl ?_
        refine mNil ?_
        refine tN ?_
        refine cSeq ?_
        refine cSeq ?_
        refine cReg ?_
        refine mV hTT _ rfl ?_
        refine mV hTT (.d (.one (.v (.bool true)))) (evb (decide_eq_true (by omega))) ?_
        refine mNil ?_
        refine tN ?_
        refine cT rfl ?_
        refine cSeq ?_
        refine cReg ?_
        refine mV hTT _ rfl ?_
        refine mV hTT (.d (.one (.v (.bool true)))) rfl ?_
        refine mV hTT _ rfl ?_
        refine mV hTT (.d (.agg ([.v (.bool false), .v (.slice none 0 0)]))) rfl ?_
        refine mC0 (aZero isn_nil) rfl rfl rfl ?_
        refine mView 39 (.d (.one (.v (.bool true)))) rfl (le_bool (decide_eq_true rfl)) ?_
        refine mV hTT _ rfl ?_
        refine mV hTT _ rfl ?_
        refine mC0 (aWakes3) rfl rfl rfl ?_
        refine mV hTT _ rfl ?_
        refine mV hTT _ rfl ?_
        refine mNil ?_
        refine tN ?_
        refine cRet ?_
        refine tR ?_
        exact rQ rfl (AV.le.rfl)
      · skip
        refine cReg ?_
        refine mV hTT _ rfl ?_
        refine mC0 (aDPl (n := m) (neg := true) (by omega) (by omega)) rfl rfl rfl ?_
        refine mV hTT _ rfl ?_
        refine mV hTT _ rfl ?_
        refine mV hTT _ rfl ?_
        refine mN hTT (.box 24 ([.v (.bool false), .v (.slice none 0 0)])) rfl rfl rfl ?_
        refine mS hTT 7 (.box 24 (zn 1200 (lgv true m))) rfl ?_
        refine mV hTT _ rfl ?_
        refine mNil ?_
        refine tN ?_
        refine cSeq ?_
        refine cSeq ?_
        refine cReg ?_
        refine mV hTT _ rfl ?_
        refine mV hTT (.d (.one (.v (.bool false)))) (evb (decide_eq_false (by omega))) ?_
        refine mNil ?_
        refine tN ?_
        refine cF rfl ?_
        refine cSkip ?_
        refine tN ?_
        refine cSeq ?_
        refine cReg ?_
        refine mV hTT _ rfl ?_
        refine mV hTT (.d (.one (.v (.bool true)))) rfl ?_
        refine mV hTT _ rfl ?_
        refine mV hTT (.d (.agg (zn 1200 (lgv true m)))) rfl ?_
        refine mC0 (aDText (isz 1200 (lgv true m)) (by decide)) rfl rfl rfl ?_
        refine mV hTT _ rfl ?_
        refine mV hTT (.d (.one (.v (.bool true)))) (evb (by rw [lgs_txt (by omega)]; exact beq_self_eq_true _)) ?_
        refine mV hTT _ rfl ?_
        refine mV hTT _ rfl ?_
        refine mC0 (aWakes3) rfl rfl rfl ?_
        refine mV hTT _ rfl ?_
        refine mV hTT _ rfl ?_
        refine mNil ?_
        refine tN ?_
        refine cRet ?_
        exact rQ rfl (AV.le.rfl)

end Go.Proofs.Ytoagihianelhjaa

