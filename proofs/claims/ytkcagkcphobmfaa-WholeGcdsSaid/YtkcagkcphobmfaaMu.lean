/-
  THE PLAIN RECKONING: small numbers, quotients, divisors, whether two are one; rationals.
-/
import Derived.Test.YtkcagkcphobmfaaMs
import Derived.Test.YtkcagkcphobmfaaMv
set_option linter.unusedVariables false
set_option linter.unusedSimpArgs false
namespace Go.Proofs.Ytkcagkcphobmfaa
open Go.RowKit

def del (xs : List Nat) : Nat → Nat → Lf := fun i _ => .v (.int .i64 ((xs.getD i 0 : Nat) : Int))
theorem digs_small {N : Nat} (h : N ≤ 9223372036854775808) : (digs4 N).length ≤ 5 := digs4_le (Nat.lt_of_le_of_lt h (by decide))
theorem digs_step {ds : List Nat} {R N : Nat} (hR : 0 < R) (h : ds ++ digs4 R = digs4 N) : (ds ++ [R % B4]) ++ digs4 (R / B4) = digs4 N := by
  rw [← h, digs4_pos (show R ≠ 0 by omega), List.append_assoc]; rfl
theorem digs_end {ds : List Nat} {R N : Nat} (hR : ¬ 0 < R) (h : ds ++ digs4 R = digs4 N) : ds = digs4 N := by
  obtain rfl : R = 0 := by omega
  rw [← h, show digs4 0 = [] from rfl, List.append_nil]
theorem del_app {e : TypeId} {ds : List Nat} {x m : Nat} {el2 : Nat → Nat → Lf} (hm : m = ds.length + 1) (h0 : el2 0 0 = .v (.int .i64 (x : Int)) := by rfl) : AO.le (.row e 1 (ds.length + 1) (appEl ds.length (del ds) el2)) (.row e 1 m (del (ds ++ [x]))) := by
  refine app_el hm (fun i hi j hj B w v hv => ?_) (fun j hj B w v hv => ?_)
  · unfold del at *; rw [List.getD_eq_getElem?_getD, List.getElem?_append_left hi, ← List.getD_eq_getElem?_getD]; exact hv
  · obtain rfl : j = 0 := by omega
    rw [h0] at hv
    unfold del; rw [List.getD_eq_getElem?_getD, List.getElem?_append_right (Nat.le_refl _), Nat.sub_self]; exact hv
/-- Cells one by one are a digit row. -/
theorem isd_row {n K N : Nat} {xs : List Nat} (hn : xs.length = n) (hx : xs = digs4 N) (hK : n ≤ K) : IsD (.row 1 n (del xs)) K N := by
  rintro B w c ⟨a, cap, rfl, h1, h2, h3⟩
  subst hn
  unfold dn
  rw [← hx]
  refine dr_R ⟨rfl, h1, h2, by rw [hx]; exact digs4_lt N, ?_⟩ hK (fun x hx' hne hb => ?_)
  · rcases Nat.eq_zero_or_pos xs.length with h0 | h0
    · have : xs = [] := List.eq_nil_of_length_eq_zero h0
      rw [this]; exact Or.inl rfl
    · obtain ⟨b, off, rfl, _, _, _⟩ := h3 0 h0
      refine Or.inr ⟨b, off, rfl, fun j hj => ?_⟩
      have hj' : j < xs.length := by simpa [ints] using hj
      obtain ⟨b', off', he', _, _, h4⟩ := h3 j hj'
      cases he'
      obtain ⟨x, hx1, hx2⟩ := h4 0 (by omega)
      obtain ⟨rfl, _⟩ := hx2
      rw [Nat.mul_one, Nat.add_zero] at hx1
      rw [hx1, ints_get]
      simp [hj']
  · obtain ⟨b, off, he', hb', _, _⟩ := h3 0 (List.length_pos_iff.2 hne)
    rw [he'] at hx'
    cases hx'
    exact hb' hb
theorem digs1 {m : Nat} : (digs4 m).length = 1 ∧ (digs4 m).getD 0 0 = 1 ↔ m = 1 := by
  constructor
  · rintro ⟨h1, h2⟩
    have h3 := val4_digs4 m
    match h : digs4 m, h1 with
    | [x], _ =>
      rw [h] at h2 h3
      simp at h2
      subst h2
      rw [← h3]; rfl
  · rintro rfl; rw [digs4_pos (by decide)]; exact ⟨rfl, rfl⟩
theorem quo_zv {x y : Int} (hd : y ∣ x) : zv (decide (x < 0) != decide (y < 0)) (x.natAbs / y.natAbs) = x / y := by
  obtain ⟨q, rfl⟩ := hd
  rcases Int.lt_trichotomy y 0 with hy | rfl | hy
  · rw [Int.natAbs_mul, Nat.mul_div_cancel_left _ (by omega), Int.mul_ediv_cancel_left _ (by omega)]
    rcases Int.lt_trichotomy q 0 with hq | rfl | hq
    · have := Int.mul_pos_of_neg_of_neg hy hq
      simp [zv, hy, show ¬ y * q < 0 from by omega]; omega
    · simp [zv]
    · have := Int.mul_neg_of_neg_of_pos hy hq
      simp [zv, hy, this]; omega
  · simp [zv]
  · rw [Int.natAbs_mul, Nat.mul_div_cancel_left _ (by omega), Int.mul_ediv_cancel_left _ (by omega)]
    rcases Int.lt_trichotomy q 0 with hq | rfl | hq
    · have := Int.mul_neg_of_pos_of_neg hy hq
      simp [zv, show ¬ y < 0 from by omega, this]; omega
    · simp [zv]
    · have := Int.mul_pos hy hq
      simp [zv, show ¬ y < 0 from by omega, show ¬ y * q < 0 from by omega]; omega

/-- A rational of the program, in any form; normal. -/
def IsT (ls : List Lf) (K : Nat) (n d : Int) : Prop := ∃ s xs t ys, (∀ B w cs, LsR B w ls cs → LsR B w ([.v (.bool s), lr K xs] ++ [.v (.bool t), lr K ys]) cs) ∧ zv s (val xs) = n ∧ zv t (val ys) = d
def tn (K : Nat) (q : Rat) : List Lf := zn K q.num ++ zn K (q.den : Int)
def IsTN (ls : List Lf) (K : Nat) (q : Rat) : Prop := ∀ B w cs, LsR B w ls cs → LsR B w (tn K q) cs
def cmpQ (x y : Rat) : Int := cmpZ (x.num * y.den) (y.num * x.den)
/-- A fraction (over 0: over 1). -/
def mkR (n d : Int) : Rat := Rat.divInt n (if d = 0 then 1 else d)
theorem mkR_pos {n d : Int} (h : 0 < d) : (Rat.divInt n d).num = n / ((Nat.gcd n.natAbs d.natAbs : Nat) : Int) ∧ ((Rat.divInt n d).den : Int) = d / ((Nat.gcd n.natAbs d.natAbs : Nat) : Int) := by
  obtain ⟨k, rfl⟩ := Int.eq_ofNat_of_zero_le (Int.le_of_lt h)
  have hk : k ≠ 0 := by rintro rfl; exact absurd h (by decide)
  rw [Rat.divInt_ofNat, ← Rat.normalize_eq_mkRat hk, Rat.normalize_eq hk]
  exact ⟨rfl, Int.natCast_ediv _ _⟩
theorem mkR_one (n : Int) : (Rat.divInt n 1).num = n ∧ ((Rat.divInt n 1).den : Int) = 1 := by
  have h := mkR_pos (n := n) (d := 1) (by decide)
  rw [show (Int.natAbs 1) = 1 from rfl, Nat.gcd_one_right] at h
  refine ⟨h.1.trans (Int.ediv_one n), h.2⟩
theorem gcd_dvd_l (n d : Int) : ((Nat.gcd n.natAbs d.natAbs : Nat) : Int) ∣ n := Int.dvd_natAbs.1 (Int.natCast_dvd_natCast.2 (Nat.gcd_dvd_left _ _))
theorem gcd_dvd_r (n d : Int) : ((Nat.gcd n.natAbs d.natAbs : Nat) : Int) ∣ d := Int.dvd_natAbs.1 (Int.natCast_dvd_natCast.2 (Nat.gcd_dvd_right _ _))
theorem gcd_nz {n d : Int} (h : d ≠ 0) : ((Nat.gcd n.natAbs d.natAbs : Nat) : Int) ≠ 0 := by
  have : Nat.gcd n.natAbs d.natAbs ≠ 0 := fun e => by
    have := (Nat.gcd_eq_zero_iff.1 e).2; omega
  omega
theorem den_ne (a : Rat) : (a.den : Int) ≠ 0 := by have := a.den_nz; omega
theorem mkR_ne {n d : Int} (h : d ≠ 0) : mkR n d = Rat.divInt n d := by unfold mkR; rw [if_neg h]
theorem mkR_add (a b : Rat) : mkR (a.num * b.den + b.num * a.den) (a.den * b.den) = a + b := by
  rw [mkR_ne (Int.mul_ne_zero (den_ne a) (den_ne b)), ← Rat.divInt_add_divInt _ _ (den_ne a) (den_ne b), Rat.num_divInt_den, Rat.num_divInt_den]
theorem mkR_mul (a b : Rat) : mkR (a.num * b.num) (a.den * b.den) = a * b := by
  rw [mkR_ne (Int.mul_ne_zero (den_ne a) (den_ne b)), ← Rat.divInt_mul_divInt, Rat.num_divInt_den, Rat.num_divInt_den]
theorem mkR_quo (a b : Rat) (h : b ≠ 0) : mkR (a.num * b.den) (a.den * b.num) = a / b := by
  have hb : b.num ≠ 0 := fun e => h (Rat.num_eq_zero.1 e)
  rw [mkR_ne (Int.mul_ne_zero (den_ne a) hb), ← Rat.divInt_mul_divInt, Rat.num_divInt_den, Rat.div_def, Rat.inv_def]
theorem mkR_int (n : Int) : mkR n 1 = (n : Rat) := by
  rw [mkR_ne (by decide)]
  exact Rat.ext (by rw [(mkR_one n).1, Rat.num_intCast]) (by have := (mkR_one n).2; rw [Rat.den_intCast]; omega)
set_option maxRecDepth 100000 in
set_option maxHeartbeats 4000000 in
theorem aROf {n : Int} (h1 : -9223372036854775808 ≤ n := by decide) (h2 : n ≤ 9223372036854775807 := by decide) : ACall Try.prog 24 [.one (.v (.int .i64 n))] (.d (.agg (rn 64 n))) := by
  refine acallN hTT 26 [.cell 2 28] Try.func24 rfl rfl rfl rfl rfl ?_
  refine cSeq ?_
  refine cReg ?_
  refine mN hTT (.box 28 ([.v (.slice none 0 0), .v (.bool false)])) rfl rfl rfl ?_
  refine mNil ?_
  refine tN ?_
  refine cSeq ?_
  refine cSeq ?_
  refine cReg ?_
  refine mV hTT _ rfl ?_
  refine mV hTT (.d (.one (.v (.bool (n == (-9223372036854775808)))))) rfl ?_
  refine mNil ?_
  refine tN ?_
  refine cCond rfl (fun hc1 => ?_) (fun hc1 => ?_)
  · skip
    refine cSeq ?_
    have hn : n = -9223372036854775808 := eq_of_beq hc1
    subst hn
    refine cReg ?_
    refine mC0 (aNPow (n := 63)) rfl rfl rfl ?_
    refine mC0 (aRMade (K := 64) (m := (2 ^ 63)) (neg := true) rfl) rfl rfl rfl ?_
    refine mS hTT 2 (.box 28 (rn 64 (zv true (2 ^ 63)))) rfl ?_
    refine mNil ?_
    refine tN ?_
    refine cRet ?_
    refine tR ?_
    exact rQ rfl (le_rn (by decide) (by decide))
  · skip
    refine cSkip ?_
    refine tN ?_
    refine cSeq ?_
    have hn : n ≠ -9223372036854775808 := fun e => by have h0 := hc1; rw [e] at h0; exact absurd h0 (by decide)
    have hN : n.natAbs ≤ 9223372036854775808 := by omega
    refine cReg ?_
    refine mV hTT _ rfl ?_
    refine mV hTT (.d (.one (.v (.bool (decide (n < 0)))))) rfl ?_
    refine mV hTT _ rfl ?_
    refine mNil ?_
    refine tN ?_
    refine cSeq ?_
    refine cSeq ?_
    refine cReg ?_
    refine mV hTT _ rfl ?_
    refine mNil ?_
    refine tN ?_
    refine cCond rfl (fun hc2 => ?_) (fun hc2 => ?_)
    · skip
      refine cReg ?_
      refine mV hTT _ rfl ?_
      refine mV hTT (.d (.one (.v (.int .i64 (n.natAbs : Int))))) (evi (show IntKind.i64.wrap (0 - n) = _ from by have h0 := of_decide_eq_true hc2; rw [wr64]; omega)) ?_
      refine mV hTT _ rfl ?_
      refine mNil ?_
      refine tN ?_
      refine cSeq ?_
      refine cReg ?_
      refine mV hTT _ rfl ?_
      refine mNil ?_
      refine tN ?_
      refine cSeq ?_
      refine cBlock ?_
      refine AW.wk (wkNil 4 4 3 1 (fun _ _ => .v undef) rfl rfl) ?_
      refine cLoop (ι := List Nat × Nat) (fun (p : List Nat × Nat) => match p with | (ds, R) => ⟨26, [(0, .d (.one (.v (.int .i64 ((R : Nat) : Int))))), (3, .d (.one (.v (.bool (decide (n < 0)))))), (2, .ptr 2 0), (4, .own 4)], [(2, .box 28 ([.v (.slice none 0 0), .v (.bool false)])), (4, .row 3 1 ds.length (del ds))]⟩) (fun (p : List Nat × Nat) => match p with | (ds, R) => ds ++ digs4 R = digs4 n.natAbs ∧ R ≤ 9223372036854775808 - 1) (fun (p : List Nat × Nat) => match p with | (ds, R) => R) ([], n.natAbs) (⟨rfl, by omega⟩) (wk (sl := [(0, .d (.one (.v (.int .i64 ((n.natAbs : Nat) : Int))))), (3, .d (.one (.v (.bool (decide (n < 0)))))), (2, .ptr 2 0), (4, .own 4)]) (hp := [(2, .box 28 ([.v (.slice none 0 0), .v (.bool false)])), (4, .row 3 1 (([]).length) (del ([])))]) rfl ⟨hs' rfl (le_int (rfl)), hs rfl, hs rfl, hs rfl, trivial⟩ ⟨ho rfl, ho' rfl (leo_row0), trivial⟩ rfl) ?_
      rintro ⟨ds, R⟩ hI
      obtain ⟨hd, hR9⟩ : ds ++ digs4 R = digs4 n.natAbs ∧ R ≤ 9223372036854775808 - 1 := hI
      show AW Try.prog _ _ ⟨26, [(0, .d (.one (.v (.int .i64 ((R : Nat) : Int))))), (3, .d (.one (.v (.bool (decide (n < 0)))))), (2, .ptr 2 0), (4, .own 4)], [(2, .box 28 ([.v (.slice none 0 0), .v (.bool false)])), (4, .row 3 1 ds.length (del ds))]⟩
      refine cSeq ?_
      refine cSeq ?_
      refine cReg ?_
      refine mV hTT _ rfl ?_
      refine mV hTT (.d (.one (.v (.bool (decide (((R : Nat) : Int) > 0)))))) rfl ?_
      refine mNil ?_
      refine tN ?_
      refine cCond rfl (fun hc3 => ?_) (fun hc3 => ?_)
      · skip
        refine cSkip ?_
        refine tN ?_
        refine cBlock ?_
        refine cSeq ?_
        have hR : 0 < R := by have h0 := of_decide_eq_true hc3; omega
        have hlen : ds.length ≤ 5 := by have h0 := digs_small hN; rw [← hd, List.length_append] at h0; omega
        refine cReg ?_
        refine mV hTT _ rfl ?_
        refine mV hTT _ rfl ?_
        refine mV hTT (.d (.one (.v (.int .i64 ((R % 10000 : Nat) : Int))))) rfl ?_
        refine mB hTT (.d (.one (.row 1 1 (fun i' j' => (([.v (.int .i64 ((R % 10000 : Nat) : Int))])[i' * 1 + j']?).getD (.v undef))))) rfl ?_
        refine mA hTT (id := 4) (n := ds.length) (m := 1) (el := (del ds)) (el2 := (fun i' j' => (([.v (.int .i64 ((R % 10000 : Nat) : Int))])[i' * 1 + j']?).getD (.v undef))) rfl rfl rfl (by show (ds.length + 1) * 8 ≤ 140737488355328; omega) (by omega) rfl rfl rfl rfl rfl rfl rfl rfl rfl rfl ?_
        refine mV hTT _ rfl ?_
        refine mNil ?_
        refine tN ?_
        refine cReg ?_
        refine mV hTT _ rfl ?_
        refine mV hTT (.d (.one (.v (.int .i64 (IntKind.i64.wrap (Int.tdiv (R : Int) 10000)))))) rfl ?_
        refine mV hTT _ rfl ?_
        refine mNil ?_
        refine bN ?_
        exact ⟨((ds ++ [R % 10000]), (R / 10000)), ⟨digs_step hR hd, by omega⟩, by show R / 10000 < R; omega, wk (sl := [(0, .d (.one (.v (.int .i64 (((R / 10000) : Nat) : Int))))), (3, .d (.one (.v (.bool (decide (n < 0)))))), (2, .ptr 2 0), (4, .own 4)]) (hp := [(2, .box 28 ([.v (.slice none 0 0), .v (.bool false)])), (4, .row 3 1 ((ds ++ [R % 10000]).length) (del (ds ++ [R % 10000])))]) rfl ⟨hs' rfl (le_int (show IntKind.i64.wrap (Int.tdiv (R : Int) 10000) = _ from by rw [show Int.tdiv (R : Int) 10000 = ((R / 10000 : Nat) : Int) from rfl]; exact wr64 (by omega) (by omega))), hs rfl, hs rfl, hs rfl, trivial⟩ ⟨ho rfl, ho' rfl (del_app (by simp)), trivial⟩ rfl⟩
      · skip
        refine cExit ?_
        refine tE ?_
        refine tE ?_
        refine bE ?_
        refine tN ?_
        refine cSeq ?_
        have hde : ds = digs4 n.natAbs := digs_end (by have h0 := of_decide_eq_false hc3; omega) hd
        refine AW.wk (wkRow 4 rfl) ?_
        refine cView 4 (.d (.one (dn 5 n.natAbs))) rfl (le_one (isd_row rfl hde (by rw [hde]; exact digs_small hN))) ?_
        refine cReg ?_
        refine mV hTT _ rfl ?_
        refine mV hTT _ rfl ?_
        refine mC0 (aRMade (K := 5) (m := n.natAbs) (neg := decide (n < 0)) rfl) rfl rfl rfl ?_
        refine mS hTT 2 (.box 28 (rn 5 (zv (decide (n < 0)) n.natAbs))) rfl ?_
        refine mNil ?_
        refine tN ?_
        refine cRet ?_
        exact rQ rfl (le_rn (by decide) (zv_natAbs n))
    · skip
      refine cSkip ?_
      refine tN ?_
      refine cSeq ?_
      refine cReg ?_
      refine mV hTT _ rfl ?_
      refine mNil ?_
      refine tN ?_
      refine cSeq ?_
      refine cBlock ?_
      refine AW.wk (wkNil 4 4 3 1 (fun _ _ => .v undef) rfl rfl) ?_
      refine cLoop (ι := List Nat × Nat) (fun (p : List Nat × Nat) => match p with | (ds, R) => ⟨26, [(0, .d (.one (.v (.int .i64 ((R : Nat) : Int))))), (3, .d (.one (.v (.bool (decide (n < 0)))))), (2, .ptr 2 0), (4, .own 4)], [(2, .box 28 ([.v (.slice none 0 0), .v (.bool false)])), (4, .row 3 1 ds.length (del ds))]⟩) (fun (p : List Nat × Nat) => match p with | (ds, R) => ds ++ digs4 R = digs4 n.natAbs ∧ R ≤ 9223372036854775808 - 1) (fun (p : List Nat × Nat) => match p with | (ds, R) => R) ([], n.natAbs) (⟨rfl, by omega⟩) (wk (sl := [(0, .d (.one (.v (.int .i64 ((n.natAbs : Nat) : Int))))), (3, .d (.one (.v (.bool (decide (n < 0)))))), (2, .ptr 2 0), (4, .own 4)]) (hp := [(2, .box 28 ([.v (.slice none 0 0), .v (.bool false)])), (4, .row 3 1 (([]).length) (del ([])))]) rfl ⟨hs' rfl (le_int (by have h0 := of_decide_eq_false hc2; omega)), hs rfl, hs rfl, hs rfl, trivial⟩ ⟨ho rfl, ho' rfl (leo_row0), trivial⟩ rfl) ?_
      rintro ⟨ds, R⟩ hI
      obtain ⟨hd, hR9⟩ : ds ++ digs4 R = digs4 n.natAbs ∧ R ≤ 9223372036854775808 - 1 := hI
      show AW Try.prog _ _ ⟨26, [(0, .d (.one (.v (.int .i64 ((R : Nat) : Int))))), (3, .d (.one (.v (.bool (decide (n < 0)))))), (2, .ptr 2 0), (4, .own 4)], [(2, .box 28 ([.v (.slice none 0 0), .v (.bool false)])), (4, .row 3 1 ds.length (del ds))]⟩
      refine cSeq ?_
      refine cSeq ?_
      refine cReg ?_
      refine mV hTT _ rfl ?_
      refine mV hTT (.d (.one (.v (.bool (decide (((R : Nat) : Int) > 0)))))) rfl ?_
      refine mNil ?_
      refine tN ?_
      refine cCond rfl (fun hc4 => ?_) (fun hc4 => ?_)
      · skip
        refine cSkip ?_
        refine tN ?_
        refine cBlock ?_
        refine cSeq ?_
        have hR : 0 < R := by have h0 := of_decide_eq_true hc4; omega
        have hlen : ds.length ≤ 5 := by have h0 := digs_small hN; rw [← hd, List.length_append] at h0; omega
        refine cReg ?_
        refine mV hTT _ rfl ?_
        refine mV hTT _ rfl ?_
        refine mV hTT (.d (.one (.v (.int .i64 ((R % 10000 : Nat) : Int))))) rfl ?_
        refine mB hTT (.d (.one (.row 1 1 (fun i' j' => (([.v (.int .i64 ((R % 10000 : Nat) : Int))])[i' * 1 + j']?).getD (.v undef))))) rfl ?_
        refine mA hTT (id := 4) (n := ds.length) (m := 1) (el := (del ds)) (el2 := (fun i' j' => (([.v (.int .i64 ((R % 10000 : Nat) : Int))])[i' * 1 + j']?).getD (.v undef))) rfl rfl rfl (by show (ds.length + 1) * 8 ≤ 140737488355328; omega) (by omega) rfl rfl rfl rfl rfl rfl rfl rfl rfl rfl ?_
        refine mV hTT _ rfl ?_
        refine mNil ?_
        refine tN ?_
        refine cReg ?_
        refine mV hTT _ rfl ?_
        refine mV hTT (.d (.one (.v (.int .i64 (IntKind.i64.wrap (Int.tdiv (R : Int) 10000)))))) rfl ?_
        refine mV hTT _ rfl ?_
        refine mNil ?_
        refine bN ?_
        exact ⟨((ds ++ [R % 10000]), (R / 10000)), ⟨digs_step hR hd, by omega⟩, by show R / 10000 < R; omega, wk (sl := [(0, .d (.one (.v (.int .i64 (((R / 10000) : Nat) : Int))))), (3, .d (.one (.v (.bool (decide (n < 0)))))), (2, .ptr 2 0), (4, .own 4)]) (hp := [(2, .box 28 ([.v (.slice none 0 0), .v (.bool false)])), (4, .row 3 1 ((ds ++ [R % 10000]).length) (del (ds ++ [R % 10000])))]) rfl ⟨hs' rfl (le_int (show IntKind.i64.wrap (Int.tdiv (R : Int) 10000) = _ from by rw [show Int.tdiv (R : Int) 10000 = ((R / 10000 : Nat) : Int) from rfl]; exact wr64 (by omega) (by omega))), hs rfl, hs rfl, hs rfl, trivial⟩ ⟨ho rfl, ho' rfl (del_app (by simp)), trivial⟩ rfl⟩
      · skip
        refine cExit ?_
        refine tE ?_
        refine tE ?_
        refine bE ?_
        refine tN ?_
        refine cSeq ?_
        have hde : ds = digs4 n.natAbs := digs_end (by have h0 := of_decide_eq_false hc4; omega) hd
        refine AW.wk (wkRow 4 rfl) ?_
        refine cView 4 (.d (.one (dn 5 n.natAbs))) rfl (le_one (isd_row rfl hde (by rw [hde]; exact digs_small hN))) ?_
        refine cReg ?_
        refine mV hTT _ rfl ?_
        refine mV hTT _ rfl ?_
        refine mC0 (aRMade (K := 5) (m := n.natAbs) (neg := decide (n < 0)) rfl) rfl rfl rfl ?_
        refine mS hTT 2 (.box 28 (rn 5 (zv (decide (n < 0)) n.natAbs))) rfl ?_
        refine mNil ?_
        refine tN ?_
        refine cRet ?_
        exact rQ rfl (le_rn (by decide) (zv_natAbs n))

set_option maxRecDepth 100000 in
set_option maxHeartbeats 4000000 in
theorem aRGcd {a b : List Lf} {K L M : Nat} {x y : Int} (ha : IsR a K x) (hb : IsR b L y) (hM : max K L ≤ M := by decide) (hMM : M ≤ 100000000 := by decide)  : ACall Try.prog 25 [.agg a, .agg b] (.d (.agg (rn M ((Nat.gcd x.natAbs y.natAbs : Nat) : Int)))) := by
  refine ACall.le (dl (DV.g ha) (dl (DV.g hb) dl0)) AV.le.rfl ?_
  refine acallN hTT 26 [.cell 4 28] Try.func25 rfl rfl rfl rfl rfl ?_
  refine cSeq ?_
  refine cReg ?_
  refine mN hTT (.box 28 (rn K x)) rfl rfl rfl ?_
  refine mN hTT (.box 28 (rn L y)) rfl rfl rfl ?_
  refine mN hTT (.box 28 ([.v (.slice none 0 0), .v (.bool false)])) rfl rfl rfl ?_
  refine mNil ?_
  refine tN ?_
  refine cSeq ?_
  refine cDrawK hTT 6 (by kernel_rfl) (by kernel_rfl) ?_
  refine .cons (OpS.V (.ptr 2 0) rfl) ?_
  refine .cons (OpS.V (.d (.one (dn K x.natAbs))) rfl) ?_
  refine .cons (OpS.V (.ptr 3 0) rfl) ?_
  refine .cons (OpS.V (.d (.one (dn L y.natAbs))) rfl) ?_
  refine .cons (OpS.V _ rfl) ?_
  refine .cons (OpS.V _ rfl) ?_
  refine .nil ?_
  refine mNil ?_
  refine tN ?_
  refine cSeq ?_
  refine cBlock ?_
  refine cLoop (ι := Nat × Nat) (fun (p : Nat × Nat) => match p with | (u, v) => ⟨26, [(4, .ptr 4 0), (5, .d (.one (dn M u))), (6, .d (.one (dn M v)))], [(4, .box 28 ([.v (.slice none 0 0), .v (.bool false)]))]⟩) (fun (p : Nat × Nat) => match p with | (u, v) => Nat.gcd u v = Nat.gcd x.natAbs y.natAbs) (fun (p : Nat × Nat) => match p with | (u, v) => v) (x.natAbs, y.natAbs) (rfl) (wk (sl := [(4, .ptr 4 0), (5, .d (.one (dn M x.natAbs))), (6, .d (.one (dn M y.natAbs)))]) (hp := [(4, .box 28 ([.v (.slice none 0 0), .v (.bool false)]))]) rfl ⟨hs rfl, hs' rfl (le_one (dr_mono (Nat.le_trans (Nat.le_max_left K L) hM))), hs' rfl (le_one (dr_mono (Nat.le_trans (Nat.le_max_right K L) hM))), trivial⟩ ⟨ho rfl, trivial⟩ rfl) ?_
  rintro ⟨u, v⟩ hI
  have hg : Nat.gcd u v = Nat.gcd x.natAbs y.natAbs := hI
  show AW Try.prog _ _ ⟨26, [(4, .ptr 4 0), (5, .d (.one (dn M u))), (6, .d (.one (dn M v)))], [(4, .box 28 ([.v (.slice none 0 0), .v (.bool false)]))]⟩
  refine cSeq ?_
  refine cSeq ?_
  refine cReg ?_
  refine mV hTT _ rfl ?_
  refine mV hTT (.d (.one (.v (.int .i64 ((digs4 v).length : Int))))) rfl ?_
  refine mV hTT (.d (.one (.v (.bool (decide (((digs4 v).length : Int) > 0)))))) rfl ?_
  refine mNil ?_
  refine tN ?_
  refine cCond rfl (fun hc1 => ?_) (fun hc1 => ?_)
  · skip
    refine cSkip ?_
    refine tN ?_
    refine cBlock ?_
    refine cSeq ?_
    have hy0 : 0 < v := by rcases Nat.eq_zero_or_pos v with e | e; exact absurd (of_decide_eq_true hc1) (by rw [e]; decide); exact e
    refine cReg ?_
    refine mV hTT _ rfl ?_
    refine mV hTT _ rfl ?_
    refine mC0 (aNDiv (isd M u) (isd M v) hy0 (by omega) (by omega)) rfl rfl rfl ?_
    refine mV hTT _ rfl ?_
    refine mV hTT _ rfl ?_
    refine mV hTT _ rfl ?_
    refine mV hTT _ rfl ?_
    refine mV hTT _ rfl ?_
    refine mNil ?_
    refine tN ?_
    refine cReg ?_
    refine mV hTT _ rfl ?_
    refine mV hTT _ rfl ?_
    refine mV hTT _ rfl ?_
    refine mV hTT _ rfl ?_
    refine mNil ?_
    refine bN ?_
    exact ⟨(v, (u % v)), by show Nat.gcd v (u % v) = _; rw [← hg, Nat.gcd_comm u v, Nat.gcd_rec v u, Nat.gcd_comm], by show u % v < v; exact Nat.mod_lt _ hy0, wk (sl := [(4, .ptr 4 0), (5, .d (.one (dn M v))), (6, .d (.one (dn M (u % v))))]) (hp := [(4, .box 28 ([.v (.slice none 0 0), .v (.bool false)]))]) rfl ⟨hs rfl, hs rfl, hs rfl, trivial⟩ ⟨ho rfl, trivial⟩ rfl⟩
  · skip
    refine cExit ?_
    refine tE ?_
    refine tE ?_
    refine bE ?_
    refine tN ?_
    refine cSeq ?_
    have hy0 : v = 0 := by have h0 := of_decide_eq_false hc1; have h1 := digs_len v; omega
    have hu : u = Nat.gcd x.natAbs y.natAbs := by rw [← hg, hy0, Nat.gcd_zero_right]
    refine cReg ?_
    refine mV hTT _ rfl ?_
    refine mV hTT (.d (.agg ([dn M u, .v (.bool false)]))) rfl ?_
    refine mS hTT 4 (.box 28 ([dn M u, .v (.bool false)])) rfl ?_
    refine mNil ?_
    refine tN ?_
    refine cRet ?_
    exact rQ rfl (le_rmade (by simp) (by rw [hu]; rfl))

theorem leo_znrow {t : TypeId} {K : Nat} {z : Int} : AO.le (.box t (zn K z)) (.box t [.v (.bool (decide (z < 0))), .row 1 (limbs z.natAbs).length fun i _ => .v (.int .u32 (((limbs z.natAbs).getD i 0 : Nat) : Int))]) := leo_box fun B w cs h => match cs, h with | [_, _], ⟨h1, h2, h3⟩ => ⟨h1, le_lrow K _ (fun _ => none) B w _ h2, h3⟩
theorem len_K {B : BS} {w : World} {K m : Nat} {v : Value} (h : LfR B w (ln K m) v) : (limbs m).length ≤ K := by obtain ⟨a, n, c, rfl, hr, hn, _⟩ := lr_of h; rw [hr.len]; exact hn
theorem same_len {B : BS} {w : World} {K L : Nat} {x : Int} {vs : List Value} (h : DsR B w [.agg (rn K x), .agg (zn L x)] vs) : (limbs x.natAbs).length ≤ L := by
  match vs, h with
  | [_, _], ⟨_, ⟨cs, rfl, h⟩, _⟩ =>
    match cs, h with
    | [_, _], ⟨_, h, _⟩ => exact len_K h
set_option maxRecDepth 100000 in
set_option maxHeartbeats 4000000 in
theorem aRSame {a b : List Lf} {K L : Nat} {x : Int} (ha : IsR a K x) (hb : IsN b L x) (hK : K ≤ 1000000000 := by decide) (hL : L ≤ 1000000000 := by decide) : ACall Try.prog 60 [.agg a, .agg b] (.d (.one (.v (.bool true)))) := by
  refine ACall.le (dl (DV.g ha) (dl (DV.g hb) dl0)) AV.le.rfl ?_
  refine ACall.fact (p := (limbs x.natAbs).length ≤ L) (enters Try.func60 rfl rfl) (fun B w vs h => same_len h) (fun hB => ?_)
  refine acallN hTT 39 [.tmp 4] Try.func60 rfl rfl rfl rfl rfl ?_
  refine cSeq ?_
  refine cReg ?_
  refine mN hTT (.box 28 (rn K x)) rfl rfl rfl ?_
  refine mN hTT (.box 24 (zn L x)) rfl rfl rfl ?_
  refine mV hTT _ rfl ?_
  refine mNil ?_
  refine tN ?_
  refine cSeq ?_
  refine cReg ?_
  refine mV hTT (.ptr 2 0) rfl ?_
  refine mV hTT (.d (.one (dn K x.natAbs))) rfl ?_
  refine mC0 (aNTo (isd K x.natAbs) (by omega)) rfl rfl rfl ?_
  refine mV hTT _ rfl ?_
  refine mNil ?_
  refine tN ?_
  refine cSeq ?_
  refine cSeq ?_
  refine cReg ?_
  refine mV hTT (.ptr 2 1) rfl ?_
  refine mV hTT (.d (.one (.v (.bool (decide (x < 0)))))) rfl ?_
  refine mV hTT (.ptr 3 0) rfl ?_
  refine mV hTT (.d (.one (.v (.bool (decide (x < 0)))))) rfl ?_
  refine mV hTT (.d (.one (.v (.bool false)))) (evb (by simp)) ?_
  refine mV hTT _ rfl ?_
  refine mV hTT _ rfl ?_
  refine mV hTT (.d (.one (.v (.int .i64 ((limbs x.natAbs).length : Int))))) rfl ?_
  refine mV hTT (.ptr 3 1) rfl ?_
  refine mV hTT (.d (.one (ln L x.natAbs))) rfl ?_
  refine mV hTT (.d (.one (.v (.int .i64 ((limbs x.natAbs).length : Int))))) rfl ?_
  refine mV hTT (.d (.one (.v (.bool false)))) (evb (by simp)) ?_
  refine mV hTT _ rfl ?_
  refine mNil ?_
  refine tN ?_
  refine cF rfl ?_
  refine cSkip ?_
  refine tN ?_
  refine cSeq ?_
  refine cSeq ?_
  refine cView 5 (.d (.one (.row 1 ((limbs x.natAbs).length) (fun i _ => .v (.int .u32 (((limbs x.natAbs).getD i 0 : Nat) : Int)))))) rfl (le_lrow _ _) ?_
  refine cReg ?_
  refine mV hTT _ rfl ?_
  refine mV hTT (.d (.one (.v (.int .i64 (((limbs x.natAbs).length : Nat) : Int))))) rfl ?_
  refine mV hTT _ rfl ?_
  refine mNil ?_
  refine tN ?_
  refine cBlock ?_
  refine cLoop (ι := Nat) (fun (i : Nat) => ⟨39, [(3, .ptr 3 0), (5, .d (.one (.row 1 ((limbs x.natAbs).length) (fun i _ => .v (.int .u32 (((limbs x.natAbs).getD i 0 : Nat) : Int)))))), (24, .d (.one (.v (.int .i64 ((limbs x.natAbs).length : Int))))), (25, .d (.one (.v (.int .i64 ((i : Nat) : Int)))))], [(3, .box 24 ([.v (.bool (decide (x < 0))), .row 1 ((limbs x.natAbs).length) (fun i _ => .v (.int .u32 (((limbs x.natAbs).getD i 0 : Nat) : Int)))]))]⟩) (fun (i : Nat) => True) (fun (i : Nat) => (limbs x.natAbs).length - i) 0 (trivial) (wk (sl := [(3, .ptr 3 0), (5, .d (.one (.row 1 ((limbs x.natAbs).length) (fun i _ => .v (.int .u32 (((limbs x.natAbs).getD i 0 : Nat) : Int)))))), (24, .d (.one (.v (.int .i64 ((limbs x.natAbs).length : Int))))), (25, .d (.one (.v (.int .i64 ((0 : Nat) : Int)))))]) (hp := [(3, .box 24 ([.v (.bool (decide (x < 0))), .row 1 ((limbs x.natAbs).length) (fun i _ => .v (.int .u32 (((limbs x.natAbs).getD i 0 : Nat) : Int)))]))]) rfl ⟨hs rfl, hs rfl, hs rfl, hs rfl, trivial⟩ ⟨ho' rfl (leo_znrow), trivial⟩ rfl) ?_
  rintro i hI
  have hT0 : True := hI
  show AW Try.prog _ _ ⟨39, [(3, .ptr 3 0), (5, .d (.one (.row 1 ((limbs x.natAbs).length) (fun i _ => .v (.int .u32 (((limbs x.natAbs).getD i 0 : Nat) : Int)))))), (24, .d (.one (.v (.int .i64 ((limbs x.natAbs).length : Int))))), (25, .d (.one (.v (.int .i64 ((i : Nat) : Int)))))], [(3, .box 24 ([.v (.bool (decide (x < 0))), .row 1 ((limbs x.natAbs).length) (fun i _ => .v (.int .u32 (((limbs x.natAbs).getD i 0 : Nat) : Int)))]))]⟩
  refine cSeq ?_
  refine cReg ?_
  refine mV hTT (.d (.one (.v (.bool (decide (((i : Nat) : Int) < ((limbs x.natAbs).length : Int))))))) rfl ?_
  refine mNil ?_
  refine tN ?_
  refine cSeq ?_
  refine cCond rfl (fun hc1 => ?_) (fun hc1 => ?_)
  · skip
    refine cSkip ?_
    refine tN ?_
    refine cSeq ?_
    refine cBlock ?_
    refine cSeq ?_
    have hi : i < (limbs x.natAbs).length := by have h0 := of_decide_eq_true hc1; omega
    refine cReg ?_
    refine mV hTT _ rfl ?_
    refine mV hTT _ rfl ?_
    refine mNil ?_
    refine tN ?_
    refine cSeq ?_
    refine cDrawK hTT 10 (by kernel_rfl) (by kernel_rfl) ?_
    refine .cons (OpS.V _ rfl) ?_
    refine .cons (OpS.V _ rfl) ?_
    refine .cons (OpS.V (.d (.one (.at 1 ((fun i _ => .v (.int .u32 (((limbs x.natAbs).getD i 0 : Nat) : Int))) i)))) (ixR (el := (fun i _ => .v (.int .u32 (((limbs x.natAbs).getD i 0 : Nat) : Int)))) (z := ((i : Nat) : Int)) (n := ((limbs x.natAbs).length)) rfl rfl rfl rfl rfl rfl (by omega) (by omega))) ?_
    refine .cons (OpS.V (.d (.one (.v (.int .u32 (((limbs x.natAbs).getD i 0 : Nat) : Int))))) rfl) ?_
    refine .cons (OpS.V (.ptr 3 1) rfl) ?_
    refine .cons (OpS.V (.d (.one (.row 1 ((limbs x.natAbs).length) (fun i _ => .v (.int .u32 (((limbs x.natAbs).getD i 0 : Nat) : Int)))))) rfl) ?_
    refine .cons (OpS.V _ rfl) ?_
    refine .cons (OpS.V (.d (.one (.at 1 ((fun i _ => .v (.int .u32 (((limbs x.natAbs).getD i 0 : Nat) : Int))) i)))) (ixR (el := (fun i _ => .v (.int .u32 (((limbs x.natAbs).getD i 0 : Nat) : Int)))) (z := ((i : Nat) : Int)) (n := ((limbs x.natAbs).length)) rfl rfl rfl rfl rfl rfl (by omega) (by omega))) ?_
    refine .cons (OpS.V (.d (.one (.v (.int .u32 (((limbs x.natAbs).getD i 0 : Nat) : Int))))) rfl) ?_
    refine .cons (OpS.V (.d (.one (.v (.bool false)))) (evb (bne_self_eq_false _))) ?_
    refine .nil ?_
    refine mNil ?_
    refine tN ?_
    refine cF rfl ?_
    refine cSkip ?_
    refine bN ?_
    refine tN ?_
    refine cReg ?_
    refine mV hTT (.d (.one (.v (.int .i64 (IntKind.i64.wrap (((i : Nat) : Int) + 1)))))) rfl ?_
    refine mV hTT _ rfl ?_
    refine mNil ?_
    exact ⟨(i + 1), trivial, by omega, wk (sl := [(3, .ptr 3 0), (5, .d (.one (.row 1 ((limbs x.natAbs).length) (fun i _ => .v (.int .u32 (((limbs x.natAbs).getD i 0 : Nat) : Int)))))), (24, .d (.one (.v (.int .i64 ((limbs x.natAbs).length : Int))))), (25, .d (.one (.v (.int .i64 (((i + 1) : Nat) : Int)))))]) (hp := [(3, .box 24 ([.v (.bool (decide (x < 0))), .row 1 ((limbs x.natAbs).length) (fun i _ => .v (.int .u32 (((limbs x.natAbs).getD i 0 : Nat) : Int)))]))]) rfl ⟨hs rfl, hs rfl, hs rfl, hs' rfl (le_int (inc64 (by omega))), trivial⟩ ⟨ho rfl, trivial⟩ rfl⟩
  · skip
    refine cExit ?_
    refine tE ?_
    refine tE ?_
    refine bE ?_
    refine tN ?_
    refine cSeq ?_
    refine cReg ?_
    refine mV hTT _ rfl ?_
    refine mNil ?_
    refine tN ?_
    refine cRet ?_
    exact rQ rfl (AV.le.rfl)

end Go.Proofs.Ytkcagkcphobmfaa
