/-
  THE PLAIN RECKONING: small numbers, quotients, divisors, whether two are one; rationals.
-/
import Derived.Test.YtlkdlicbhhackaaJ3
set_option linter.unusedVariables false
set_option linter.unusedSimpArgs false
namespace Go.Proofs.Ytlkdlicbhhackaa
open Go.RowKit

def del (xs : List Nat) : Nat → Nat → Lf := fun i _ => .v (.int .i64 ((xs.getD i 0 : Nat) : Int))
theorem digs_small {N : Nat} (h : N ≤ 9223372036854775808) : (digs4 N).length ≤ 5 := digs4_le (Nat.lt_of_le_of_lt h (by decide))
theorem digs_step {ds : List Nat} {R N : Nat} (hR : 0 < R) (h : ds ++ digs4 R = digs4 N) : (ds ++ [R % B4]) ++ digs4 (R / B4) = digs4 N := by
  rw [← h, digs4_pos (show R ≠ 0 by omega), List.append_assoc]; rfl
theorem digs_end {ds : List Nat} {R N : Nat} (hR : ¬ 0 < R) (h : ds ++ digs4 R = digs4 N) : ds = digs4 N := by
  obtain rfl : R = 0 := by omega
  rw [← h, show digs4 0 = [] from rfl, List.append_nil]
theorem del_app {e : TypeId} {ds : List Nat} {x m : Nat} {el2 : Nat → Nat → Lf} (hm : m = ds.length + 1) (h0 : el2 0 0 = .v (.int .i64 (x : Int)) := by rfl) : AO.le (.row e 1 (ds.length + 1) (appEl ds.length (del ds) el2)) (.row e 1 m (del (ds ++ [x]))) := by
  refine app_el hm (fun i hi j hj B w v hv => ?_) (fun j hj B w v hv => ?_)
  · unfold del at *; rw [List.getD_eq_getElem?_getD, List.getElem?_append_left hi, ← List.getD_eq_getElem?_getD]; exact hv
  · obtain rfl : j = 0 := by omega
    rw [h0] at hv
    unfold del; rw [List.getD_eq_getElem?_getD, List.getElem?_append_right (Nat.le_refl _), Nat.sub_self]; exact hv
/-- Cells one by one are a digit row. -/
theorem isd_row {n K N : Nat} {xs : List Nat} (hn : xs.length = n) (hx : xs = digs4 N) (hK : n ≤ K) : IsD (.row 1 n (del xs)) K N := by
  rintro B w c ⟨a, cap, rfl, h1, h2, h3⟩
  subst hn
  unfold dn
  rw [← hx]
  refine dr_R ⟨rfl, h1, h2, by rw [hx]; exact digs4_lt N, ?_⟩ hK (fun x hx' hne hb => ?_)
  · rcases Nat.eq_zero_or_pos xs.length with h0 | h0
    · have : xs = [] := List.eq_nil_of_length_eq_zero h0
      rw [this]; exact Or.inl rfl
    · obtain ⟨b, off, rfl, _, _, _⟩ := h3 0 h0
      refine Or.inr ⟨b, off, rfl, fun j hj => ?_⟩
      have hj' : j < xs.length := by simpa [ints] using hj
      obtain ⟨b', off', he', _, _, h4⟩ := h3 j hj'
      cases he'
      obtain ⟨x, hx1, hx2⟩ := h4 0 (by omega)
      obtain ⟨rfl, _⟩ := hx2
      rw [Nat.mul_one, Nat.add_zero] at hx1
      rw [hx1, ints_get]
      simp [hj']
  · obtain ⟨b, off, he', hb', _, _⟩ := h3 0 (List.length_pos_iff.2 hne)
    rw [he'] at hx'
    cases hx'
    exact hb' hb
theorem digs1 {m : Nat} : (digs4 m).length = 1 ∧ (digs4 m).getD 0 0 = 1 ↔ m = 1 := by
  constructor
  · rintro ⟨h1, h2⟩
    have h3 := val4_digs4 m
    match h : digs4 m, h1 with
    | [x], _ =>
      rw [h] at h2 h3
      simp at h2
      subst h2
      rw [← h3]; rfl
  · rintro rfl; rw [digs4_pos (by decide)]; exact ⟨rfl, rfl⟩
theorem quo_zv {x y : Int} (hd : y ∣ x) : zv (decide (x < 0) != decide (y < 0)) (x.natAbs / y.natAbs) = x / y := by
  obtain ⟨q, rfl⟩ := hd
  rcases Int.lt_trichotomy y 0 with hy | rfl | hy
  · rw [Int.natAbs_mul, Nat.mul_div_cancel_left _ (by omega), Int.mul_ediv_cancel_left _ (by omega)]
    rcases Int.lt_trichotomy q 0 with hq | rfl | hq
    · have := Int.mul_pos_of_neg_of_neg hy hq
      simp [zv, hy, show ¬ y * q < 0 from by omega]; omega
    · simp [zv]
    · have := Int.mul_neg_of_neg_of_pos hy hq
      simp [zv, hy, this]; omega
  · simp [zv]
  · rw [Int.natAbs_mul, Nat.mul_div_cancel_left _ (by omega), Int.mul_ediv_cancel_left _ (by omega)]
    rcases Int.lt_trichotomy q 0 with hq | rfl | hq
    · have := Int.mul_neg_of_pos_of_neg hy hq
      simp [zv, show ¬ y < 0 from by omega, this]; omega
    · simp [zv]
    · have := Int.mul_pos hy hq
      simp [zv, show ¬ y < 0 from by omega, show ¬ y * q < 0 from by omega]; omega

/-- A rational of the program, in any form; normal. -/
def IsT (ls : List Lf) (K : Nat) (n d : Int) : Prop := ∃ s xs t ys, (∀ B w cs, LsR B w ls cs → LsR B w ([.v (.bool s), lr K xs] ++ [.v (.bool t), lr K ys]) cs) ∧ zv s (val xs) = n ∧ zv t (val ys) = d
def tn (K : Nat) (q : Rat) : List Lf := zn K q.num ++ zn K (q.den : Int)
def IsTN (ls : List Lf) (K : Nat) (q : Rat) : Prop := ∀ B w cs, LsR B w ls cs → LsR B w (tn K q) cs
def cmpQ (x y : Rat) : Int := cmpZ (x.num * y.den) (y.num * x.den)
/-- A fraction (over 0: over 1). -/
def mkR (n d : Int) : Rat := Rat.divInt n (if d = 0 then 1 else d)
theorem mkR_pos {n d : Int} (h : 0 < d) : (Rat.divInt n d).num = n / ((Nat.gcd n.natAbs d.natAbs : Nat) : Int) ∧ ((Rat.divInt n d).den : Int) = d / ((Nat.gcd n.natAbs d.natAbs : Nat) : Int) := by
  obtain ⟨k, rfl⟩ := Int.eq_ofNat_of_zero_le (Int.le_of_lt h)
  have hk : k ≠ 0 := by rintro rfl; exact absurd h (by decide)
  rw [Rat.divInt_ofNat, ← Rat.normalize_eq_mkRat hk, Rat.normalize_eq hk]
  exact ⟨rfl, Int.natCast_ediv _ _⟩
theorem mkR_one (n : Int) : (Rat.divInt n 1).num = n ∧ ((Rat.divInt n 1).den : Int) = 1 := by
  have h := mkR_pos (n := n) (d := 1) (by decide)
  rw [show (Int.natAbs 1) = 1 from rfl, Nat.gcd_one_right] at h
  refine ⟨h.1.trans (Int.ediv_one n), h.2⟩
theorem gcd_dvd_l (n d : Int) : ((Nat.gcd n.natAbs d.natAbs : Nat) : Int) ∣ n := Int.dvd_natAbs.1 (Int.natCast_dvd_natCast.2 (Nat.gcd_dvd_left _ _))
theorem gcd_dvd_r (n d : Int) : ((Nat.gcd n.natAbs d.natAbs : Nat) : Int) ∣ d := Int.dvd_natAbs.1 (Int.natCast_dvd_natCast.2 (Nat.gcd_dvd_right _ _))
theorem gcd_nz {n d : Int} (h : d ≠ 0) : ((Nat.gcd n.natAbs d.natAbs : Nat) : Int) ≠ 0 := by
  have : Nat.gcd n.natAbs d.natAbs ≠ 0 := fun e => by
    have := (Nat.gcd_eq_zero_iff.1 e).2; omega
  omega
theorem den_ne (a : Rat) : (a.den : Int) ≠ 0 := by have := a.den_nz; omega
theorem mkR_ne {n d : Int} (h : d ≠ 0) : mkR n d = Rat.divInt n d := by unfold mkR; rw [if_neg h]
theorem mkR_add (a b : Rat) : mkR (a.num * b.den + b.num * a.den) (a.den * b.den) = a + b := by
  rw [mkR_ne (Int.mul_ne_zero (den_ne a) (den_ne b)), ← Rat.divInt_add_divInt _ _ (den_ne a) (den_ne b), Rat.num_divInt_den, Rat.num_divInt_den]
theorem mkR_mul (a b : Rat) : mkR (a.num * b.num) (a.den * b.den) = a * b := by
  rw [mkR_ne (Int.mul_ne_zero (den_ne a) (den_ne b)), ← Rat.divInt_mul_divInt, Rat.num_divInt_den, Rat.num_divInt_den]
theorem mkR_quo (a b : Rat) (h : b ≠ 0) : mkR (a.num * b.den) (a.den * b.num) = a / b := by
  have hb : b.num ≠ 0 := fun e => h (Rat.num_eq_zero.1 e)
  rw [mkR_ne (Int.mul_ne_zero (den_ne a) hb), ← Rat.divInt_mul_divInt, Rat.num_divInt_den, Rat.div_def, Rat.inv_def]
theorem mkR_int (n : Int) : mkR n 1 = (n : Rat) := by
  rw [mkR_ne (by decide)]
  exact Rat.ext (by rw [(mkR_one n).1, Rat.num_intCast]) (by have := (mkR_one n).2; rw [Rat.den_intCast]; omega)
set_option maxRecDepth 100000 in
set_option maxHeartbeats 4000000 in
theorem aROf {n : Int} (h1 : -9223372036854775808 ≤ n := by decide) (h2 : n ≤ 9223372036854775807 := by decide) : ACall Try.prog 85 [.one (.v (.int .i64 n))] (.d (.agg (rn 64 n))) := by
  refine acallN hTT 26 [.cell 2 42] Try.func85 rfl rfl rfl rfl rfl ?_
  refine cSeq ?_
  refine cReg ?_
  refine mN hTT (.box 42 ([.v (.slice none 0 0), .v (.bool false)])) rfl rfl rfl ?_
  refine mNil ?_
  refine tN ?_
  refine cSeq ?_
  refine cSeq ?_
  refine cReg ?_
  refine mV hTT _ rfl ?_
  refine mV hTT (.d (.one (.v (.bool (n == (-9223372036854775808)))))) rfl ?_
  refine mNil ?_
  refine tN ?_
  refine cCond rfl (fun hc1 => ?_) (fun hc1 => ?_)
  · skip
    refine cSeq ?_
    have hn : n = -9223372036854775808 := eq_of_beq hc1
    subst hn
    refine cReg ?_
    refine mC0 (aNPow (n := 63)) rfl rfl rfl ?_
    refine mC0 (aRMade (K := 64) (m := (2 ^ 63)) (neg := true) rfl) rfl rfl rfl ?_
    refine mS hTT 2 (.box 42 (rn 64 (zv true (2 ^ 63)))) rfl ?_
    refine mNil ?_
    refine tN ?_
    refine cRet ?_
    refine tR ?_
    exact rQ rfl (le_rn (by decide) (by decide))
  · skip
    refine cSkip ?_
    refine tN ?_
    refine cSeq ?_
    have hn : n ≠ -9223372036854775808 := fun e => by have h0 := hc1; rw [e] at h0; exact absurd h0 (by decide)
    have hN : n.natAbs ≤ 9223372036854775808 := by omega
    refine cReg ?_
    refine mV hTT _ rfl ?_
    refine mV hTT (.d (.one (.v (.bool (decide (n < 0)))))) rfl ?_
    refine mV hTT _ rfl ?_
    refine mNil ?_
    refine tN ?_
    refine cSeq ?_
    refine cSeq ?_
    refine cReg ?_
    refine mV hTT _ rfl ?_
    refine mNil ?_
    refine tN ?_
    refine cCond rfl (fun hc2 => ?_) (fun hc2 => ?_)
    · skip
      refine cReg ?_
      refine mV hTT _ rfl ?_
      refine mV hTT (.d (.one (.v (.int .i64 (n.natAbs : Int))))) (evi (show IntKind.i64.wrap (0 - n) = _ from by have h0 := of_decide_eq_true hc2; rw [wr64]; omega)) ?_
      refine mV hTT _ rfl ?_
      refine mNil ?_
      refine tN ?_
      refine cSeq ?_
      refine cReg ?_
      refine mV hTT _ rfl ?_
      refine mNil ?_
      refine tN ?_
      refine cSeq ?_
      refine cBlock ?_
      refine AW.wk (wkNil 4 4 3 1 (fun _ _ => .v undef) rfl rfl) ?_
      refine cLoop (ι := List Nat × Nat) (fun (p : List Nat × Nat) => match p with | (ds, R) => ⟨26, [(0, .d (.one (.v (.int .i64 ((R : Nat) : Int))))), (3, .d (.one (.v (.bool (decide (n < 0)))))), (2, .ptr 2 0), (4, .own 4)], [(2, .box 42 ([.v (.slice none 0 0), .v (.bool false)])), (4, .row 3 1 ds.length (del ds))]⟩) (fun (p : List Nat × Nat) => match p with | (ds, R) => ds ++ digs4 R = digs4 n.natAbs ∧ R ≤ 9223372036854775808 - 1) (fun (p : List Nat × Nat) => match p with | (ds, R) => R) ([], n.natAbs) (⟨rfl, by omega⟩) (wk (sl := [(0, .d (.one (.v (.int .i64 ((n.natAbs : Nat) : Int))))), (3, .d (.one (.v (.bool (decide (n < 0)))))), (2, .ptr 2 0), (4, .own 4)]) (hp := [(2, .box 42 ([.v (.slice none 0 0), .v (.bool false)])), (4, .row 3 1 (([]).length) (del ([])))]) rfl ⟨hs' rfl (le_int (rfl)), hs rfl, hs rfl, hs rfl, trivial⟩ ⟨ho rfl, ho' rfl (leo_row0), trivial⟩ rfl) ?_
      rintro ⟨ds, R⟩ hI
      obtain ⟨hd, hR9⟩ : ds ++ digs4 R = digs4 n.natAbs ∧ R ≤ 9223372036854775808 - 1 := hI
      show AW Try.prog _ _ ⟨26, [(0, .d (.one (.v (.int .i64 ((R : Nat) : Int))))), (3, .d (.one (.v (.bool (decide (n < 0)))))), (2, .ptr 2 0), (4, .own 4)], [(2, .box 42 ([.v (.slice none 0 0), .v (.bool false)])), (4, .row 3 1 ds.length (del ds))]⟩
      refine cSeq ?_
      refine cSeq ?_
      refine cReg ?_
      refine mV hTT _ rfl ?_
      refine mV hTT (.d (.one (.v (.bool (decide (((R : Nat) : Int) > 0)))))) rfl ?_
      refine mNil ?_
      refine tN ?_
      refine cCond rfl (fun hc3 => ?_) (fun hc3 => ?_)
      · skip
        refine cSkip ?_
        refine tN ?_
        refine cBlock ?_
        refine cSeq ?_
        have hR : 0 < R := by have h0 := of_decide_eq_true hc3; omega
        have hlen : ds.length ≤ 5 := by have h0 := digs_small hN; rw [← hd, List.length_append] at h0; omega
        refine cReg ?_
        refine mV hTT _ rfl ?_
        refine mV hTT _ rfl ?_
        refine mV hTT (.d (.one (.v (.int .i64 ((R % 10000 : Nat) : Int))))) rfl ?_
        refine mB hTT (.d (.one (.row 1 1 (fun i' j' => (([.v (.int .i64 ((R % 10000 : Nat) : Int))])[i' * 1 + j']?).getD (.v undef))))) rfl ?_
        refine mA hTT (id := 4) (n := ds.length) (m := 1) (el := (del ds)) (el2 := (fun i' j' => (([.v (.int .i64 ((R % 10000 : Nat) : Int))])[i' * 1 + j']?).getD (.v undef))) rfl rfl rfl (by show (ds.length + 1) * 8 ≤ 140737488355328; omega) (by omega) rfl rfl rfl rfl rfl rfl rfl rfl rfl rfl ?_
        refine mV hTT _ rfl ?_
        refine mNil ?_
        refine tN ?_
        refine cReg ?_
        refine mV hTT _ rfl ?_
        refine mV hTT (.d (.one (.v (.int .i64 (IntKind.i64.wrap (Int.tdiv (R : Int) 10000)))))) rfl ?_
        refine mV hTT _ rfl ?_
        refine mNil ?_
        refine bN ?_
        exact ⟨((ds ++ [R % 10000]), (R / 10000)), ⟨digs_step hR hd, by omega⟩, by show R / 10000 < R; omega, wk (sl := [(0, .d (.one (.v (.int .i64 (((R / 10000) : Nat) : Int))))), (3, .d (.one (.v (.bool (decide (n < 0)))))), (2, .ptr 2 0), (4, .own 4)]) (hp := [(2, .box 42 ([.v (.slice none 0 0), .v (.bool false)])), (4, .row 3 1 ((ds ++ [R % 10000]).length) (del (ds ++ [R % 10000])))]) rfl ⟨hs' rfl (le_int (show IntKind.i64.wrap (Int.tdiv (R : Int) 10000) = _ from by rw [show Int.tdiv (R : Int) 10000 = ((R / 10000 : Nat) : Int) from rfl]; exact wr64 (by omega) (by omega))), hs rfl, hs rfl, hs rfl, trivial⟩ ⟨ho rfl, ho' rfl (del_app (by simp)), trivial⟩ rfl⟩
      · skip
        refine cExit ?_
        refine tE ?_
        refine tE ?_
        refine bE ?_
        refine tN ?_
        refine cSeq ?_
        have hde : ds = digs4 n.natAbs := digs_end (by have h0 := of_decide_eq_false hc3; omega) hd
        refine AW.wk (wkRow 4 rfl) ?_
        refine cView 4 (.d (.one (dn 5 n.natAbs))) rfl (le_one (isd_row rfl hde (by rw [hde]; exact digs_small hN))) ?_
        refine cReg ?_
        refine mV hTT _ rfl ?_
        refine mV hTT _ rfl ?_
        refine mC0 (aRMade (K := 5) (m := n.natAbs) (neg := decide (n < 0)) rfl) rfl rfl rfl ?_
        refine mS hTT 2 (.box 42 (rn 5 (zv (decide (n < 0)) n.natAbs))) rfl ?_
        refine mNil ?_
        refine tN ?_
        refine cRet ?_
        exact rQ rfl (le_rn (by decide) (zv_natAbs n))
    · skip
      refine cSkip ?_
      refine tN ?_
      refine cSeq ?_
      refine cReg ?_
      refine mV hTT _ rfl ?_
      refine mNil ?_
      refine tN ?_
      refine cSeq ?_
      refine cBlock ?_
      refine AW.wk (wkNil 4 4 3 1 (fun _ _ => .v undef) rfl rfl) ?_
      refine cLoop (ι := List Nat × Nat) (fun (p : List Nat × Nat) => match p with | (ds, R) => ⟨26, [(0, .d (.one (.v (.int .i64 ((R : Nat) : Int))))), (3, .d (.one (.v (.bool (decide (n < 0)))))), (2, .ptr 2 0), (4, .own 4)], [(2, .box 42 ([.v (.slice none 0 0), .v (.bool false)])), (4, .row 3 1 ds.length (del ds))]⟩) (fun (p : List Nat × Nat) => match p with | (ds, R) => ds ++ digs4 R = digs4 n.natAbs ∧ R ≤ 9223372036854775808 - 1) (fun (p : List Nat × Nat) => match p with | (ds, R) => R) ([], n.natAbs) (⟨rfl, by omega⟩) (wk (sl := [(0, .d (.one (.v (.int .i64 ((n.natAbs : Nat) : Int))))), (3, .d (.one (.v (.bool (decide (n < 0)))))), (2, .ptr 2 0), (4, .own 4)]) (hp := [(2, .box 42 ([.v (.slice none 0 0), .v (.bool false)])), (4, .row 3 1 (([]).length) (del ([])))]) rfl ⟨hs' rfl (le_int (by have h0 := of_decide_eq_false hc2; omega)), hs rfl, hs rfl, hs rfl, trivial⟩ ⟨ho rfl, ho' rfl (leo_row0), trivial⟩ rfl) ?_
      rintro ⟨ds, R⟩ hI
      obtain ⟨hd, hR9⟩ : ds ++ digs4 R = digs4 n.natAbs ∧ R ≤ 9223372036854775808 - 1 := hI
      show AW Try.prog _ _ ⟨26, [(0, .d (.one (.v (.int .i64 ((R : Nat) : Int))))), (3, .d (.one (.v (.bool (decide (n < 0)))))), (2, .ptr 2 0), (4, .own 4)], [(2, .box 42 ([.v (.slice none 0 0), .v (.bool false)])), (4, .row 3 1 ds.length (del ds))]⟩
      refine cSeq ?_
      refine cSeq ?_
      refine cReg ?_
      refine mV hTT _ rfl ?_
      refine mV hTT (.d (.one (.v (.bool (decide (((R : Nat) : Int) > 0)))))) rfl ?_
      refine mNil ?_
      refine tN ?_
      refine cCond rfl (fun hc4 => ?_) (fun hc4 => ?_)
      · skip
        refine cSkip ?_
        refine tN ?_
        refine cBlock ?_
        refine cSeq ?_
        have hR : 0 < R := by have h0 := of_decide_eq_true hc4; omega
        have hlen : ds.length ≤ 5 := by have h0 := digs_small hN; rw [← hd, List.length_append] at h0; omega
        refine cReg ?_
        refine mV hTT _ rfl ?_
        refine mV hTT _ rfl ?_
        refine mV hTT (.d (.one (.v (.int .i64 ((R % 10000 : Nat) : Int))))) rfl ?_
        refine mB hTT (.d (.one (.row 1 1 (fun i' j' => (([.v (.int .i64 ((R % 10000 : Nat) : Int))])[i' * 1 + j']?).getD (.v undef))))) rfl ?_
        refine mA hTT (id := 4) (n := ds.length) (m := 1) (el := (del ds)) (el2 := (fun i' j' => (([.v (.int .i64 ((R % 10000 : Nat) : Int))])[i' * 1 + j']?).getD (.v undef))) rfl rfl rfl (by show (ds.length + 1) * 8 ≤ 140737488355328; omega) (by omega) rfl rfl rfl rfl rfl rfl rfl rfl rfl rfl ?_
        refine mV hTT _ rfl ?_
        refine mNil ?_
        refine tN ?_
        refine cReg ?_
        refine mV hTT _ rfl ?_
        refine mV hTT (.d (.one (.v (.int .i64 (IntKind.i64.wrap (Int.tdiv (R : Int) 10000)))))) rfl ?_
        refine mV hTT _ rfl ?_
        refine mNil ?_
        refine bN ?_
        exact ⟨((ds ++ [R % 10000]), (R / 10000)), ⟨digs_step hR hd, by omega⟩, by show R / 10000 < R; omega, wk (sl := [(0, .d (.one (.v (.int .i64 (((R / 10000) : Nat) : Int))))), (3, .d (.one (.v (.bool (decide (n < 0)))))), (2, .ptr 2 0), (4, .own 4)]) (hp := [(2, .box 42 ([.v (.slice none 0 0), .v (.bool false)])), (4, .row 3 1 ((ds ++ [R % 10000]).length) (del (ds ++ [R % 10000])))]) rfl ⟨hs' rfl (le_int (show IntKind.i64.wrap (Int.tdiv (R : Int) 10000) = _ from by rw [show Int.tdiv (R : Int) 10000 = ((R / 10000 : Nat) : Int) from rfl]; exact wr64 (by omega) (by omega))), hs rfl, hs rfl, hs rfl, trivial⟩ ⟨ho rfl, ho' rfl (del_app (by simp)), trivial⟩ rfl⟩
      · skip
        refine cExit ?_
        refine tE ?_
        refine tE ?_
        refine bE ?_
        refine tN ?_
        refine cSeq ?_
        have hde : ds = digs4 n.natAbs := digs_end (by have h0 := of_decide_eq_false hc4; omega) hd
        refine AW.wk (wkRow 4 rfl) ?_
        refine cView 4 (.d (.one (dn 5 n.natAbs))) rfl (le_one (isd_row rfl hde (by rw [hde]; exact digs_small hN))) ?_
        refine cReg ?_
        refine mV hTT _ rfl ?_
        refine mV hTT _ rfl ?_
        refine mC0 (aRMade (K := 5) (m := n.natAbs) (neg := decide (n < 0)) rfl) rfl rfl rfl ?_
        refine mS hTT 2 (.box 42 (rn 5 (zv (decide (n < 0)) n.natAbs))) rfl ?_
        refine mNil ?_
        refine tN ?_
        refine cRet ?_
        exact rQ rfl (le_rn (by decide) (zv_natAbs n))

set_option maxRecDepth 100000 in
set_option maxHeartbeats 4000000 in
theorem aRQuo {a b : List Lf} {K L M : Nat} {x y : Int} (ha : IsR a K x) (hb : IsR b L y) (hy : y ≠ 0) (hd : y ∣ x) (hM : K ≤ M := by decide) (hK : K ≤ 100000000 := by decide) (hL : L ≤ 100000000 := by decide) : ACall Try.prog 103 [.agg a, .agg b] (.d (.agg (rn M (x / y)))) := by
  refine ACall.le (dl (DV.g ha) (dl (DV.g hb) dl0)) AV.le.rfl ?_
  refine acallN hTT 22 [.cell 4 42] Try.func103 rfl rfl rfl rfl rfl ?_
  refine cSeq ?_
  refine cReg ?_
  refine mN hTT (.box 42 (rn K x)) rfl rfl rfl ?_
  refine mN hTT (.box 42 (rn L y)) rfl rfl rfl ?_
  refine mN hTT (.box 42 ([.v (.slice none 0 0), .v (.bool false)])) rfl rfl rfl ?_
  refine mNil ?_
  refine tN ?_
  refine cSeq ?_
  refine cReg ?_
  refine mV hTT (.ptr 2 0) rfl ?_
  refine mV hTT (.d (.one (dn K x.natAbs))) rfl ?_
  refine mV hTT (.ptr 3 0) rfl ?_
  refine mV hTT (.d (.one (dn L y.natAbs))) rfl ?_
  refine mC0 (aNDiv (isd K x.natAbs) (isd L y.natAbs) (by omega) (by omega) (by omega)) rfl rfl rfl ?_
  refine mV hTT _ rfl ?_
  refine mV hTT _ rfl ?_
  refine mV hTT _ rfl ?_
  refine mV hTT _ rfl ?_
  refine mV hTT _ rfl ?_
  refine mNil ?_
  refine tN ?_
  refine cSeq ?_
  refine cReg ?_
  refine mV hTT _ rfl ?_
  refine mV hTT (.ptr 2 1) rfl ?_
  refine mV hTT (.d (.one (.v (.bool (decide (x < 0)))))) rfl ?_
  refine mV hTT (.ptr 3 1) rfl ?_
  refine mV hTT (.d (.one (.v (.bool (decide (y < 0)))))) rfl ?_
  refine mV hTT (.d (.one (.v (.bool (!((decide (x < 0)) == (decide (y < 0)))))))) rfl ?_
  refine mC0 (aRMade (K := K) (m := (x.natAbs / y.natAbs)) (neg := !((decide (x < 0)) == (decide (y < 0)))) rfl) rfl rfl rfl ?_
  refine mS hTT 4 (.box 42 (rn K (zv (!((decide (x < 0)) == (decide (y < 0)))) (x.natAbs / y.natAbs)))) rfl ?_
  refine mNil ?_
  refine tN ?_
  refine cRet ?_
  exact rQ rfl (le_rn hM (quo_zv hd))

set_option maxRecDepth 100000 in
set_option maxHeartbeats 4000000 in
theorem aRGcd {a b : List Lf} {K L M : Nat} {x y : Int} (ha : IsR a K x) (hb : IsR b L y) (hM : max K L ≤ M := by decide) (hMM : M ≤ 100000000 := by decide)  : ACall Try.prog 102 [.agg a, .agg b] (.d (.agg (rn M ((Nat.gcd x.natAbs y.natAbs : Nat) : Int)))) := by
  refine ACall.le (dl (DV.g ha) (dl (DV.g hb) dl0)) AV.le.rfl ?_
  refine acallN hTT 26 [.cell 4 42] Try.func102 rfl rfl rfl rfl rfl ?_
  refine cSeq ?_
  refine cReg ?_
  refine mN hTT (.box 42 (rn K x)) rfl rfl rfl ?_
  refine mN hTT (.box 42 (rn L y)) rfl rfl rfl ?_
  refine mN hTT (.box 42 ([.v (.slice none 0 0), .v (.bool false)])) rfl rfl rfl ?_
  refine mNil ?_
  refine tN ?_
  refine cSeq ?_
  refine cDrawK hTT 6 (by kernel_rfl) (by kernel_rfl) (by kernel_rfl) ?_
  refine .cons (OpS.V (.ptr 2 0) rfl) ?_
  refine .cons (OpS.V (.d (.one (dn K x.natAbs))) rfl) ?_
  refine .cons (OpS.V (.ptr 3 0) rfl) ?_
  refine .cons (OpS.V (.d (.one (dn L y.natAbs))) rfl) ?_
  refine .cons (OpS.V _ rfl) ?_
  refine .cons (OpS.V _ rfl) ?_
  refine .nil ?_
  refine mNil ?_
  refine tN ?_
  refine cSeq ?_
  refine cBlock ?_
  refine cLoop (ι := Nat × Nat) (fun (p : Nat × Nat) => match p with | (u, v) => ⟨26, [(4, .ptr 4 0), (5, .d (.one (dn M u))), (6, .d (.one (dn M v)))], [(4, .box 42 ([.v (.slice none 0 0), .v (.bool false)]))]⟩) (fun (p : Nat × Nat) => match p with | (u, v) => Nat.gcd u v = Nat.gcd x.natAbs y.natAbs) (fun (p : Nat × Nat) => match p with | (u, v) => v) (x.natAbs, y.natAbs) (rfl) (wk (sl := [(4, .ptr 4 0), (5, .d (.one (dn M x.natAbs))), (6, .d (.one (dn M y.natAbs)))]) (hp := [(4, .box 42 ([.v (.slice none 0 0), .v (.bool false)]))]) rfl ⟨hs rfl, hs' rfl (le_one (dr_mono (Nat.le_trans (Nat.le_max_left K L) hM))), hs' rfl (le_one (dr_mono (Nat.le_trans (Nat.le_max_right K L) hM))), trivial⟩ ⟨ho rfl, trivial⟩ rfl) ?_
  rintro ⟨u, v⟩ hI
  have hg : Nat.gcd u v = Nat.gcd x.natAbs y.natAbs := hI
  show AW Try.prog _ _ ⟨26, [(4, .ptr 4 0), (5, .d (.one (dn M u))), (6, .d (.one (dn M v)))], [(4, .box 42 ([.v (.slice none 0 0), .v (.bool false)]))]⟩
  refine cSeq ?_
  refine cSeq ?_
  refine cReg ?_
  refine mV hTT _ rfl ?_
  refine mV hTT (.d (.one (.v (.int .i64 ((digs4 v).length : Int))))) rfl ?_
  refine mV hTT (.d (.one (.v (.bool (decide (((digs4 v).length : Int) > 0)))))) rfl ?_
  refine mNil ?_
  refine tN ?_
  refine cCond rfl (fun hc1 => ?_) (fun hc1 => ?_)
  · skip
    refine cSkip ?_
    refine tN ?_
    refine cBlock ?_
    refine cSeq ?_
    have hy0 : 0 < v := by rcases Nat.eq_zero_or_pos v with e | e; exact absurd (of_decide_eq_true hc1) (by rw [e]; decide); exact e
    refine cReg ?_
    refine mV hTT _ rfl ?_
    refine mV hTT _ rfl ?_
    refine mC0 (aNDiv (isd M u) (isd M v) hy0 (by omega) (by omega)) rfl rfl rfl ?_
    refine mV hTT _ rfl ?_
    refine mV hTT _ rfl ?_
    refine mV hTT _ rfl ?_
    refine mV hTT _ rfl ?_
    refine mV hTT _ rfl ?_
    refine mNil ?_
    refine tN ?_
    refine cReg ?_
    refine mV hTT _ rfl ?_
    refine mV hTT _ rfl ?_
    refine mV hTT _ rfl ?_
    refine mV hTT _ rfl ?_
    refine mNil ?_
    refine bN ?_
    exact ⟨(v, (u % v)), by show Nat.gcd v (u % v) = _; rw [← hg, Nat.gcd_comm u v, Nat.gcd_rec v u, Nat.gcd_comm], by show u % v < v; exact Nat.mod_lt _ hy0, wk (sl := [(4, .ptr 4 0), (5, .d (.one (dn M v))), (6, .d (.one (dn M (u % v))))]) (hp := [(4, .box 42 ([.v (.slice none 0 0), .v (.bool false)]))]) rfl ⟨hs rfl, hs rfl, hs rfl, trivial⟩ ⟨ho rfl, trivial⟩ rfl⟩
  · skip
    refine cExit ?_
    refine tE ?_
    refine tE ?_
    refine bE ?_
    refine tN ?_
    refine cSeq ?_
    have hy0 : v = 0 := by have h0 := of_decide_eq_false hc1; have h1 := digs_len v; omega
    have hu : u = Nat.gcd x.natAbs y.natAbs := by rw [← hg, hy0, Nat.gcd_zero_right]
    refine cReg ?_
    refine mV hTT _ rfl ?_
    refine mV hTT (.d (.agg ([dn M u, .v (.bool false)]))) rfl ?_
    refine mS hTT 4 (.box 42 ([dn M u, .v (.bool false)])) rfl ?_
    refine mNil ?_
    refine tN ?_
    refine cRet ?_
    exact rQ rfl (le_rmade (by simp) (by rw [hu]; rfl))

theorem leo_znrow {t : TypeId} {K : Nat} {z : Int} : AO.le (.box t (zn K z)) (.box t [.v (.bool (decide (z < 0))), .row 1 (limbs z.natAbs).length fun i _ => .v (.int .u32 (((limbs z.natAbs).getD i 0 : Nat) : Int))]) := leo_box fun B w cs h => match cs, h with | [_, _], ⟨h1, h2, h3⟩ => ⟨h1, le_lrow K _ (fun _ => none) B w _ h2, h3⟩
theorem len_K {B : BS} {w : World} {K m : Nat} {v : Value} (h : LfR B w (ln K m) v) : (limbs m).length ≤ K := by obtain ⟨a, n, c, rfl, hr, hn, _⟩ := lr_of h; rw [hr.len]; exact hn
theorem same_len {B : BS} {w : World} {K L : Nat} {x : Int} {vs : List Value} (h : DsR B w [.agg (rn K x), .agg (zn L x)] vs) : (limbs x.natAbs).length ≤ L := by
  match vs, h with
  | [_, _], ⟨_, ⟨cs, rfl, h⟩, _⟩ =>
    match cs, h with
    | [_, _], ⟨_, h, _⟩ => exact len_K h
set_option maxRecDepth 100000 in
set_option maxHeartbeats 4000000 in
theorem aRSame {a b : List Lf} {K L : Nat} {x : Int} (ha : IsR a K x) (hb : IsN b L x) (hK : K ≤ 1000000000 := by decide) (hL : L ≤ 1000000000 := by decide) : ACall Try.prog 74 [.agg a, .agg b] (.d (.one (.v (.bool true)))) := by
  refine ACall.le (dl (DV.g ha) (dl (DV.g hb) dl0)) AV.le.rfl ?_
  refine ACall.fact (p := (limbs x.natAbs).length ≤ L) (enters Try.func74 rfl rfl) (fun B w vs h => same_len h) (fun hB => ?_)
  refine acallN hTT 39 [.tmp 4] Try.func74 rfl rfl rfl rfl rfl ?_
  refine cSeq ?_
  refine cReg ?_
  refine mN hTT (.box 42 (rn K x)) rfl rfl rfl ?_
  refine mN hTT (.box 36 (zn L x)) rfl rfl rfl ?_
  refine mV hTT _ rfl ?_
  refine mNil ?_
  refine tN ?_
  refine cSeq ?_
  refine cReg ?_
  refine mV hTT (.ptr 2 0) rfl ?_
  refine mV hTT (.d (.one (dn K x.natAbs))) rfl ?_
  refine mC0 (aNTo (isd K x.natAbs) (by omega)) rfl rfl rfl ?_
  refine mV hTT _ rfl ?_
  refine mNil ?_
  refine tN ?_
  refine cSeq ?_
  refine cSeq ?_
  refine cReg ?_
  refine mV hTT (.ptr 2 1) rfl ?_
  refine mV hTT (.d (.one (.v (.bool (decide (x < 0)))))) rfl ?_
  refine mV hTT (.ptr 3 0) rfl ?_
  refine mV hTT (.d (.one (.v (.bool (decide (x < 0)))))) rfl ?_
  refine mV hTT (.d (.one (.v (.bool false)))) (evb (by simp)) ?_
  refine mV hTT _ rfl ?_
  refine mV hTT _ rfl ?_
  refine mV hTT (.d (.one (.v (.int .i64 ((limbs x.natAbs).length : Int))))) rfl ?_
  refine mV hTT (.ptr 3 1) rfl ?_
  refine mV hTT (.d (.one (ln L x.natAbs))) rfl ?_
  refine mV hTT (.d (.one (.v (.int .i64 ((limbs x.natAbs).length : Int))))) rfl ?_
  refine mV hTT (.d (.one (.v (.bool false)))) (evb (by simp)) ?_
  refine mV hTT _ rfl ?_
  refine mNil ?_
  refine tN ?_
  refine cF rfl ?_
  refine cSkip ?_
  refine tN ?_
  refine cSeq ?_
  refine cSeq ?_
  refine cView 5 (.d (.one (.row 1 ((limbs x.natAbs).length) (fun i _ => .v (.int .u32 (((limbs x.natAbs).getD i 0 : Nat) : Int)))))) rfl (le_lrow _ _) ?_
  refine cReg ?_
  refine mV hTT _ rfl ?_
  refine mV hTT (.d (.one (.v (.int .i64 (((limbs x.natAbs).length : Nat) : Int))))) rfl ?_
  refine mV hTT _ rfl ?_
  refine mNil ?_
  refine tN ?_
  refine cBlock ?_
  refine cLoop (ι := Nat) (fun (i : Nat) => ⟨39, [(3, .ptr 3 0), (5, .d (.one (.row 1 ((limbs x.natAbs).length) (fun i _ => .v (.int .u32 (((limbs x.natAbs).getD i 0 : Nat) : Int)))))), (24, .d (.one (.v (.int .i64 ((limbs x.natAbs).length : Int))))), (25, .d (.one (.v (.int .i64 ((i : Nat) : Int)))))], [(3, .box 36 ([.v (.bool (decide (x < 0))), .row 1 ((limbs x.natAbs).length) (fun i _ => .v (.int .u32 (((limbs x.natAbs).getD i 0 : Nat) : Int)))]))]⟩) (fun (i : Nat) => True) (fun (i : Nat) => (limbs x.natAbs).length - i) 0 (trivial) (wk (sl := [(3, .ptr 3 0), (5, .d (.one (.row 1 ((limbs x.natAbs).length) (fun i _ => .v (.int .u32 (((limbs x.natAbs).getD i 0 : Nat) : Int)))))), (24, .d (.one (.v (.int .i64 ((limbs x.natAbs).length : Int))))), (25, .d (.one (.v (.int .i64 ((0 : Nat) : Int)))))]) (hp := [(3, .box 36 ([.v (.bool (decide (x < 0))), .row 1 ((limbs x.natAbs).length) (fun i _ => .v (.int .u32 (((limbs x.natAbs).getD i 0 : Nat) : Int)))]))]) rfl ⟨hs rfl, hs rfl, hs rfl, hs rfl, trivial⟩ ⟨ho' rfl (leo_znrow), trivial⟩ rfl) ?_
  rintro i hI
  have hT0 : True := hI
  show AW Try.prog _ _ ⟨39, [(3, .ptr 3 0), (5, .d (.one (.row 1 ((limbs x.natAbs).length) (fun i _ => .v (.int .u32 (((limbs x.natAbs).getD i 0 : Nat) : Int)))))), (24, .d (.one (.v (.int .i64 ((limbs x.natAbs).length : Int))))), (25, .d (.one (.v (.int .i64 ((i : Nat) : Int)))))], [(3, .box 36 ([.v (.bool (decide (x < 0))), .row 1 ((limbs x.natAbs).length) (fun i _ => .v (.int .u32 (((limbs x.natAbs).getD i 0 : Nat) : Int)))]))]⟩
  refine cSeq ?_
  refine cReg ?_
  refine mV hTT (.d (.one (.v (.bool (decide (((i : Nat) : Int) < ((limbs x.natAbs).length : Int))))))) rfl ?_
  refine mNil ?_
  refine tN ?_
  refine cSeq ?_
  refine cCond rfl (fun hc1 => ?_) (fun hc1 => ?_)
  · skip
    refine cSkip ?_
    refine tN ?_
    refine cSeq ?_
    refine cBlock ?_
    refine cSeq ?_
    have hi : i < (limbs x.natAbs).length := by have h0 := of_decide_eq_true hc1; omega
    refine cReg ?_
    refine mV hTT _ rfl ?_
    refine mV hTT _ rfl ?_
    refine mNil ?_
    refine tN ?_
    refine cSeq ?_
    refine cDrawK hTT 10 (by kernel_rfl) (by kernel_rfl) (by kernel_rfl) ?_
    refine .cons (OpS.V _ rfl) ?_
    refine .cons (OpS.V _ rfl) ?_
    refine .cons (OpS.V (.d (.one (.at 1 ((fun i _ => .v (.int .u32 (((limbs x.natAbs).getD i 0 : Nat) : Int))) i)))) (ixR (el := (fun i _ => .v (.int .u32 (((limbs x.natAbs).getD i 0 : Nat) : Int)))) (z := ((i : Nat) : Int)) (n := ((limbs x.natAbs).length)) rfl rfl rfl rfl rfl rfl (by omega) (by omega))) ?_
    refine .cons (OpS.V (.d (.one (.v (.int .u32 (((limbs x.natAbs).getD i 0 : Nat) : Int))))) rfl) ?_
    refine .cons (OpS.V (.ptr 3 1) rfl) ?_
    refine .cons (OpS.V (.d (.one (.row 1 ((limbs x.natAbs).length) (fun i _ => .v (.int .u32 (((limbs x.natAbs).getD i 0 : Nat) : Int)))))) rfl) ?_
    refine .cons (OpS.V _ rfl) ?_
    refine .cons (OpS.V (.d (.one (.at 1 ((fun i _ => .v (.int .u32 (((limbs x.natAbs).getD i 0 : Nat) : Int))) i)))) (ixR (el := (fun i _ => .v (.int .u32 (((limbs x.natAbs).getD i 0 : Nat) : Int)))) (z := ((i : Nat) : Int)) (n := ((limbs x.natAbs).length)) rfl rfl rfl rfl rfl rfl (by omega) (by omega))) ?_
    refine .cons (OpS.V (.d (.one (.v (.int .u32 (((limbs x.natAbs).getD i 0 : Nat) : Int))))) rfl) ?_
    refine .cons (OpS.V (.d (.one (.v (.bool false)))) (evb (bne_self_eq_false _))) ?_
    refine .nil ?_
    refine mNil ?_
    refine tN ?_
    refine cF rfl ?_
    refine cSkip ?_
    refine bN ?_
    refine tN ?_
    refine cReg ?_
    refine mV hTT (.d (.one (.v (.int .i64 (IntKind.i64.wrap (((i : Nat) : Int) + 1)))))) rfl ?_
    refine mV hTT _ rfl ?_
    refine mNil ?_
    exact ⟨(i + 1), trivial, by omega, wk (sl := [(3, .ptr 3 0), (5, .d (.one (.row 1 ((limbs x.natAbs).length) (fun i _ => .v (.int .u32 (((limbs x.natAbs).getD i 0 : Nat) : Int)))))), (24, .d (.one (.v (.int .i64 ((limbs x.natAbs).length : Int))))), (25, .d (.one (.v (.int .i64 (((i + 1) : Nat) : Int)))))]) (hp := [(3, .box 36 ([.v (.bool (decide (x < 0))), .row 1 ((limbs x.natAbs).length) (fun i _ => .v (.int .u32 (((limbs x.natAbs).getD i 0 : Nat) : Int)))]))]) rfl ⟨hs rfl, hs rfl, hs rfl, hs' rfl (le_int (inc64 (by omega))), trivial⟩ ⟨ho rfl, trivial⟩ rfl⟩
  · skip
    refine cExit ?_
    refine tE ?_
    refine tE ?_
    refine bE ?_
    refine tN ?_
    refine cSeq ?_
    refine cReg ?_
    refine mV hTT _ rfl ?_
    refine mNil ?_
    refine tN ?_
    refine cRet ?_
    exact rQ rfl (AV.le.rfl)

set_option maxRecDepth 100000 in
set_option maxHeartbeats 4000000 in
theorem aRMake {a b : List Lf} {K L M : Nat} {n d : Int} (ha : IsR a K n) (hb : IsR b L d) (hM : max K (max L 64) ≤ M := by decide) (hMM : M ≤ 100000000 := by decide) : ACall Try.prog 88 [.agg a, .agg b] (.d (.agg (qn M (mkR n d)))) := by
  refine ACall.le (dl (DV.g ha) (dl (DV.g hb) dl0)) AV.le.rfl ?_
  refine acallN hTT 39 [.cell 4 68] Try.func88 rfl rfl rfl rfl rfl ?_
  refine cSeq ?_
  refine cReg ?_
  refine mN hTT (.box 42 (rn K n)) rfl rfl rfl ?_
  refine mN hTT (.box 42 (rn L d)) rfl rfl rfl ?_
  refine mN hTT (.box 68 ([.v (.slice none 0 0), .v (.bool false), .v (.slice none 0 0), .v (.bool false)])) rfl rfl rfl ?_
  refine mNil ?_
  refine tN ?_
  refine cSeq ?_
  refine cSeq ?_
  refine cReg ?_
  refine mV hTT (.d (.agg (rn L d))) rfl ?_
  refine mC0 (aRZero (isr L d)) rfl rfl rfl ?_
  refine mNil ?_
  refine tN ?_
  refine cCond rfl (fun hc1 => ?_) (fun hc1 => ?_)
  · skip
    refine cReg ?_
    refine mC0 (aROf (n := 1) (by decide) (by decide)) rfl rfl rfl ?_
    refine mS hTT 3 (.box 42 (rn 64 1)) rfl ?_
    refine mNil ?_
    refine tN ?_
    refine cSeq ?_
    refine cSeq ?_
    have hd0 : d = 0 := of_decide_eq_true hc1
    refine cReg ?_
    refine mV hTT (.ptr 3 1) rfl ?_
    refine mV hTT (.d (.one (.v (.bool false)))) rfl ?_
    refine mNil ?_
    refine tN ?_
    refine cF rfl ?_
    refine cSkip ?_
    refine tN ?_
    refine cSeq ?_
    refine cSeq ?_
    by_cases hl1 : (digs4 (Int.natAbs 1)).length = 1
    · skip
      refine cReg ?_
      refine mV hTT (.ptr 3 0) rfl ?_
      refine mV hTT (.d (.one (dn 64 (Int.natAbs 1)))) rfl ?_
      refine mV hTT (.d (.one (.v (.int .i64 ((digs4 (Int.natAbs 1)).length : Int))))) rfl ?_
      refine mV hTT (.d (.one (.v (.bool true)))) (evb (by rw [hl1]; rfl)) ?_
      refine mV hTT _ rfl ?_
      refine mV hTT (.ptr 3 0) rfl ?_
      refine mV hTT (.d (.one (dn 64 (Int.natAbs 1)))) rfl ?_
      refine mView 21 (.d (.one (.row 1 ((digs4 (Int.natAbs 1)).length) (fun i _ => .v (.int .i64 (((digs4 (Int.natAbs 1)).getD i 0 : Nat) : Int)))))) rfl (le_drow _ _) ?_
      refine mV hTT (.d (.one (.at 1 ((fun i _ => .v (.int .i64 (((digs4 (Int.natAbs 1)).getD i 0 : Nat) : Int))) 0)))) (ixR (el := (fun i _ => .v (.int .i64 (((digs4 (Int.natAbs 1)).getD i 0 : Nat) : Int)))) (z := 0) (n := ((digs4 (Int.natAbs 1)).length)) rfl rfl rfl rfl rfl rfl (by decide) (by rw [hl1]; decide)) ?_
      refine mV hTT (.d (.one (.v (.int .i64 (((digs4 (Int.natAbs 1)).getD 0 0 : Nat) : Int))))) rfl ?_
      refine mV hTT (.d (.one (.v (.bool ((((digs4 (Int.natAbs 1)).getD 0 0 : Nat) : Int) == 1))))) rfl ?_
      refine mV hTT _ rfl ?_
      refine mNil ?_
      refine tN ?_
      refine cCond rfl (fun hc2 => ?_) (fun hc2 => ?_)
      · skip
        refine cSeq ?_
        refine cReg ?_
        refine mV hTT (.d (.agg (rn K n))) rfl ?_
        refine mV hTT (.d (.agg (rn 64 1))) rfl ?_
        refine mV hTT (.d (.agg (rn K n ++ rn 64 1))) rfl ?_
        refine mS hTT 4 (.box 68 (rn K n ++ rn 64 1)) rfl ?_
        refine mNil ?_
        refine tN ?_
        refine cRet ?_
        refine tR ?_
        have hq : mkR n d = Rat.divInt n 1 := by unfold mkR; rw [if_pos hd0]
        have h1 : (1 : Int) = 1 := by have h0 := digs1.1 ⟨hl1, Int.ofNat_inj.1 (eq_of_beq hc2)⟩; omega
        have hq1 : mkR n d = Rat.divInt n 1 := hq.trans (congrArg (Rat.divInt n) h1)
        obtain ⟨e1, e2⟩ := mkR_one n
        exact rQ rfl (le_qn2 (by omega) (by omega) (by rw [hq1]; exact e1.symm) (by rw [hq1]; exact h1.trans e2.symm))
      · skip
        refine cSkip ?_
        refine tN ?_
        refine cSeq ?_
        have hD : (0 : Int) < 1 := by omega
        refine cReg ?_
        refine mV hTT (.d (.agg (rn K n))) rfl ?_
        refine mV hTT (.d (.agg (rn 64 1))) rfl ?_
        refine mC0 (aRGcd (isr K n) (isr 64 1) (M := (max K 64)) (by omega) (by omega)) rfl rfl rfl ?_
        refine mN hTT (.box 42 ([.v (.slice none 0 0), .v (.bool false)])) rfl rfl rfl ?_
        refine mS hTT 5 (.box 42 (rn (max K 64) ((Nat.gcd (Int.natAbs n) (Int.natAbs 1) : Nat) : Int))) rfl ?_
        refine mNil ?_
        refine tN ?_
        refine cSeq ?_
        refine cDrawK hTT 7 (by kernel_rfl) (by kernel_rfl) (by kernel_rfl) ?_
        refine .cons (OpS.V (.d (.agg (rn K n))) rfl) ?_
        refine .cons (OpS.V (.d (.agg (rn (max K 64) ((Nat.gcd (Int.natAbs n) (Int.natAbs 1) : Nat) : Int)))) rfl) ?_
        refine .cons (OpS.C0 (aRQuo (isr K n) (isr (max K 64) ((Nat.gcd (Int.natAbs n) (Int.natAbs 1) : Nat) : Int)) (gcd_nz (by omega)) (gcd_dvd_l _ _) (M := K) (by omega) (by omega) (by omega)) rfl rfl rfl) ?_
        refine .cons (OpS.V (.d (.agg (rn 64 1))) rfl) ?_
        refine .cons (OpS.V (.d (.agg (rn (max K 64) ((Nat.gcd (Int.natAbs n) (Int.natAbs 1) : Nat) : Int)))) rfl) ?_
        refine .cons (OpS.C0 (aRQuo (isr 64 1) (isr (max K 64) ((Nat.gcd (Int.natAbs n) (Int.natAbs 1) : Nat) : Int)) (gcd_nz (by omega)) (gcd_dvd_r _ _) (M := 64) (by decide) (by decide) (by omega)) rfl rfl rfl) ?_
        refine .cons (OpS.V (.d (.agg (rn K (n / ((Nat.gcd (Int.natAbs n) (Int.natAbs 1) : Nat) : Int)) ++ rn 64 (1 / ((Nat.gcd (Int.natAbs n) (Int.natAbs 1) : Nat) : Int))))) rfl) ?_
        refine .nil ?_
        refine mS hTT 4 (.box 68 (rn K (n / ((Nat.gcd (Int.natAbs n) (Int.natAbs 1) : Nat) : Int)) ++ rn 64 (1 / ((Nat.gcd (Int.natAbs n) (Int.natAbs 1) : Nat) : Int)))) rfl ?_
        refine mNil ?_
        refine tN ?_
        refine cRet ?_
        have hq : mkR n d = Rat.divInt n 1 := by unfold mkR; rw [if_pos hd0]
        obtain ⟨e1, e2⟩ := mkR_pos (n := n) (d := 1) hD
        exact rQ rfl (le_qn2 (by omega) (by omega) (by rw [hq]; exact e1.symm) (by rw [hq]; exact e2.symm))
    · skip
      refine cReg ?_
      refine mV hTT (.ptr 3 0) rfl ?_
      refine mV hTT (.d (.one (dn 64 (Int.natAbs 1)))) rfl ?_
      refine mV hTT (.d (.one (.v (.int .i64 ((digs4 (Int.natAbs 1)).length : Int))))) rfl ?_
      refine mV hTT (.d (.one (.v (.bool false)))) (evb (beq_eq_false_iff_ne.2 fun e => hl1 (by exact_mod_cast e))) ?_
      refine mV hTT _ rfl ?_
      refine mG rfl rfl ?_
      refine mG rfl rfl ?_
      refine mG rfl rfl ?_
      refine mG rfl rfl ?_
      refine mG rfl rfl ?_
      refine mV hTT _ rfl ?_
      refine mNil ?_
      refine tN ?_
      refine cF rfl ?_
      refine cSkip ?_
      refine tN ?_
      refine cSeq ?_
      have hD : (0 : Int) < 1 := by omega
      refine cReg ?_
      refine mV hTT (.d (.agg (rn K n))) rfl ?_
      refine mV hTT (.d (.agg (rn 64 1))) rfl ?_
      refine mC0 (aRGcd (isr K n) (isr 64 1) (M := (max K 64)) (by omega) (by omega)) rfl rfl rfl ?_
      refine mN hTT (.box 42 ([.v (.slice none 0 0), .v (.bool false)])) rfl rfl rfl ?_
      refine mS hTT 5 (.box 42 (rn (max K 64) ((Nat.gcd (Int.natAbs n) (Int.natAbs 1) : Nat) : Int))) rfl ?_
      refine mNil ?_
      refine tN ?_
      refine cSeq ?_
      refine cDrawK hTT 7 (by kernel_rfl) (by kernel_rfl) (by kernel_rfl) ?_
      refine .cons (OpS.V (.d (.agg (rn K n))) rfl) ?_
      refine .cons (OpS.V (.d (.agg (rn (max K 64) ((Nat.gcd (Int.natAbs n) (Int.natAbs 1) : Nat) : Int)))) rfl) ?_
      refine .cons (OpS.C0 (aRQuo (isr K n) (isr (max K 64) ((Nat.gcd (Int.natAbs n) (Int.natAbs 1) : Nat) : Int)) (gcd_nz (by omega)) (gcd_dvd_l _ _) (M := K) (by omega) (by omega) (by omega)) rfl rfl rfl) ?_
      refine .cons (OpS.V (.d (.agg (rn 64 1))) rfl) ?_
      refine .cons (OpS.V (.d (.agg (rn (max K 64) ((Nat.gcd (Int.natAbs n) (Int.natAbs 1) : Nat) : Int)))) rfl) ?_
      refine .cons (OpS.C0 (aRQuo (isr 64 1) (isr (max K 64) ((Nat.gcd (Int.natAbs n) (Int.natAbs 1) : Nat) : Int)) (gcd_nz (by omega)) (gcd_dvd_r _ _) (M := 64) (by decide) (by decide) (by omega)) rfl rfl rfl) ?_
      refine .cons (OpS.V (.d (.agg (rn K (n / ((Nat.gcd (Int.natAbs n) (Int.natAbs 1) : Nat) : Int)) ++ rn 64 (1 / ((Nat.gcd (Int.natAbs n) (Int.natAbs 1) : Nat) : Int))))) rfl) ?_
      refine .nil ?_
      refine mS hTT 4 (.box 68 (rn K (n / ((Nat.gcd (Int.natAbs n) (Int.natAbs 1) : Nat) : Int)) ++ rn 64 (1 / ((Nat.gcd (Int.natAbs n) (Int.natAbs 1) : Nat) : Int)))) rfl ?_
      refine mNil ?_
      refine tN ?_
      refine cRet ?_
      have hq : mkR n d = Rat.divInt n 1 := by unfold mkR; rw [if_pos hd0]
      obtain ⟨e1, e2⟩ := mkR_pos (n := n) (d := 1) hD
      exact rQ rfl (le_qn2 (by omega) (by omega) (by rw [hq]; exact e1.symm) (by rw [hq]; exact e2.symm))
  · skip
    refine cSkip ?_
    refine tN ?_
    refine cSeq ?_
    refine cSeq ?_
    have hd0 : d ≠ 0 := of_decide_eq_false hc1
    refine cReg ?_
    refine mV hTT (.ptr 3 1) rfl ?_
    refine mV hTT (.d (.one (.v (.bool (decide (d < 0)))))) rfl ?_
    refine mNil ?_
    refine tN ?_
    refine cCond rfl (fun hc3 => ?_) (fun hc3 => ?_)
    · skip
      have hdn : d < 0 := of_decide_eq_true hc3
      refine cDrawK hTT 4 (by kernel_rfl) (by kernel_rfl) (by kernel_rfl) ?_
      refine .cons (OpS.V (.d (.agg (rn K n))) rfl) ?_
      refine .cons (OpS.C0 (aRNeg (isr K n) (M := K) (by omega) (by omega)) rfl rfl rfl) ?_
      refine .cons (OpS.V (.d (.agg (rn L d))) rfl) ?_
      refine .cons (OpS.C0 (aRNeg (isr L d) (M := L) (by omega) (by omega)) rfl rfl rfl) ?_
      refine .nil ?_
      refine mS hTT 2 (.box 42 (rn K (-n))) rfl ?_
      refine mS hTT 3 (.box 42 (rn L (-d))) rfl ?_
      refine mNil ?_
      refine tN ?_
      refine cSeq ?_
      refine cSeq ?_
      by_cases hl1 : (digs4 (Int.natAbs (-d))).length = 1
      · skip
        refine cReg ?_
        refine mV hTT (.ptr 3 0) rfl ?_
        refine mV hTT (.d (.one (dn L (Int.natAbs (-d))))) rfl ?_
        refine mV hTT (.d (.one (.v (.int .i64 ((digs4 (Int.natAbs (-d))).length : Int))))) rfl ?_
        refine mV hTT (.d (.one (.v (.bool true)))) (evb (by rw [hl1]; rfl)) ?_
        refine mV hTT _ rfl ?_
        refine mV hTT (.ptr 3 0) rfl ?_
        refine mV hTT (.d (.one (dn L (Int.natAbs (-d))))) rfl ?_
        refine mView 21 (.d (.one (.row 1 ((digs4 (Int.natAbs (-d))).length) (fun i _ => .v (.int .i64 (((digs4 (Int.natAbs (-d))).getD i 0 : Nat) : Int)))))) rfl (le_drow _ _) ?_
        refine mV hTT (.d (.one (.at 1 ((fun i _ => .v (.int .i64 (((digs4 (Int.natAbs (-d))).getD i 0 : Nat) : Int))) 0)))) (ixR (el := (fun i _ => .v (.int .i64 (((digs4 (Int.natAbs (-d))).getD i 0 : Nat) : Int)))) (z := 0) (n := ((digs4 (Int.natAbs (-d))).length)) rfl rfl rfl rfl rfl rfl (by decide) (by rw [hl1]; decide)) ?_
        refine mV hTT (.d (.one (.v (.int .i64 (((digs4 (Int.natAbs (-d))).getD 0 0 : Nat) : Int))))) rfl ?_
        refine mV hTT (.d (.one (.v (.bool ((((digs4 (Int.natAbs (-d))).getD 0 0 : Nat) : Int) == 1))))) rfl ?_
        refine mV hTT _ rfl ?_
        refine mNil ?_
        refine tN ?_
        refine cCond rfl (fun hc4 => ?_) (fun hc4 => ?_)
        · skip
          refine cSeq ?_
          refine cReg ?_
          refine mV hTT (.d (.agg (rn K (-n)))) rfl ?_
          refine mV hTT (.d (.agg (rn L (-d)))) rfl ?_
          refine mV hTT (.d (.agg (rn K (-n) ++ rn L (-d)))) rfl ?_
          refine mS hTT 4 (.box 68 (rn K (-n) ++ rn L (-d))) rfl ?_
          refine mNil ?_
          refine tN ?_
          refine cRet ?_
          refine tR ?_
          have hq : mkR n d = Rat.divInt (-n) (-d) := by rw [mkR_ne hd0, Rat.neg_divInt_neg]
          have h1 : ((-d) : Int) = 1 := by have h0 := digs1.1 ⟨hl1, Int.ofNat_inj.1 (eq_of_beq hc4)⟩; omega
          have hq1 : mkR n d = Rat.divInt (-n) 1 := hq.trans (congrArg (Rat.divInt (-n)) h1)
          obtain ⟨e1, e2⟩ := mkR_one (-n)
          exact rQ rfl (le_qn2 (by omega) (by omega) (by rw [hq1]; exact e1.symm) (by rw [hq1]; exact h1.trans e2.symm))
        · skip
          refine cSkip ?_
          refine tN ?_
          refine cSeq ?_
          have hD : (0 : Int) < (-d) := by omega
          refine cReg ?_
          refine mV hTT (.d (.agg (rn K (-n)))) rfl ?_
          refine mV hTT (.d (.agg (rn L (-d)))) rfl ?_
          refine mC0 (aRGcd (isr K (-n)) (isr L (-d)) (M := (max K L)) (by omega) (by omega)) rfl rfl rfl ?_
          refine mN hTT (.box 42 ([.v (.slice none 0 0), .v (.bool false)])) rfl rfl rfl ?_
          refine mS hTT 5 (.box 42 (rn (max K L) ((Nat.gcd (Int.natAbs (-n)) (Int.natAbs (-d)) : Nat) : Int))) rfl ?_
          refine mNil ?_
          refine tN ?_
          refine cSeq ?_
          refine cDrawK hTT 7 (by kernel_rfl) (by kernel_rfl) (by kernel_rfl) ?_
          refine .cons (OpS.V (.d (.agg (rn K (-n)))) rfl) ?_
          refine .cons (OpS.V (.d (.agg (rn (max K L) ((Nat.gcd (Int.natAbs (-n)) (Int.natAbs (-d)) : Nat) : Int)))) rfl) ?_
          refine .cons (OpS.C0 (aRQuo (isr K (-n)) (isr (max K L) ((Nat.gcd (Int.natAbs (-n)) (Int.natAbs (-d)) : Nat) : Int)) (gcd_nz (by omega)) (gcd_dvd_l _ _) (M := K) (by omega) (by omega) (by omega)) rfl rfl rfl) ?_
          refine .cons (OpS.V (.d (.agg (rn L (-d)))) rfl) ?_
          refine .cons (OpS.V (.d (.agg (rn (max K L) ((Nat.gcd (Int.natAbs (-n)) (Int.natAbs (-d)) : Nat) : Int)))) rfl) ?_
          refine .cons (OpS.C0 (aRQuo (isr L (-d)) (isr (max K L) ((Nat.gcd (Int.natAbs (-n)) (Int.natAbs (-d)) : Nat) : Int)) (gcd_nz (by omega)) (gcd_dvd_r _ _) (M := L) (by omega) (by omega) (by omega)) rfl rfl rfl) ?_
          refine .cons (OpS.V (.d (.agg (rn K ((-n) / ((Nat.gcd (Int.natAbs (-n)) (Int.natAbs (-d)) : Nat) : Int)) ++ rn L ((-d) / ((Nat.gcd (Int.natAbs (-n)) (Int.natAbs (-d)) : Nat) : Int))))) rfl) ?_
          refine .nil ?_
          refine mS hTT 4 (.box 68 (rn K ((-n) / ((Nat.gcd (Int.natAbs (-n)) (Int.natAbs (-d)) : Nat) : Int)) ++ rn L ((-d) / ((Nat.gcd (Int.natAbs (-n)) (Int.natAbs (-d)) : Nat) : Int)))) rfl ?_
          refine mNil ?_
          refine tN ?_
          refine cRet ?_
          have hq : mkR n d = Rat.divInt (-n) (-d) := by rw [mkR_ne hd0, Rat.neg_divInt_neg]
          obtain ⟨e1, e2⟩ := mkR_pos (n := (-n)) (d := (-d)) hD
          exact rQ rfl (le_qn2 (by omega) (by omega) (by rw [hq]; exact e1.symm) (by rw [hq]; exact e2.symm))
      · skip
        refine cReg ?_
        refine mV hTT (.ptr 3 0) rfl ?_
        refine mV hTT (.d (.one (dn L (Int.natAbs (-d))))) rfl ?_
        refine mV hTT (.d (.one (.v (.int .i64 ((digs4 (Int.natAbs (-d))).length : Int))))) rfl ?_
        refine mV hTT (.d (.one (.v (.bool false)))) (evb (beq_eq_false_iff_ne.2 fun e => hl1 (by exact_mod_cast e))) ?_
        refine mV hTT _ rfl ?_
        refine mG rfl rfl ?_
        refine mG rfl rfl ?_
        refine mG rfl rfl ?_
        refine mG rfl rfl ?_
        refine mG rfl rfl ?_
        refine mV hTT _ rfl ?_
        refine mNil ?_
        refine tN ?_
        refine cF rfl ?_
        refine cSkip ?_
        refine tN ?_
        refine cSeq ?_
        have hD : (0 : Int) < (-d) := by omega
        refine cReg ?_
        refine mV hTT (.d (.agg (rn K (-n)))) rfl ?_
        refine mV hTT (.d (.agg (rn L (-d)))) rfl ?_
        refine mC0 (aRGcd (isr K (-n)) (isr L (-d)) (M := (max K L)) (by omega) (by omega)) rfl rfl rfl ?_
        refine mN hTT (.box 42 ([.v (.slice none 0 0), .v (.bool false)])) rfl rfl rfl ?_
        refine mS hTT 5 (.box 42 (rn (max K L) ((Nat.gcd (Int.natAbs (-n)) (Int.natAbs (-d)) : Nat) : Int))) rfl ?_
        refine mNil ?_
        refine tN ?_
        refine cSeq ?_
        refine cDrawK hTT 7 (by kernel_rfl) (by kernel_rfl) (by kernel_rfl) ?_
        refine .cons (OpS.V (.d (.agg (rn K (-n)))) rfl) ?_
        refine .cons (OpS.V (.d (.agg (rn (max K L) ((Nat.gcd (Int.natAbs (-n)) (Int.natAbs (-d)) : Nat) : Int)))) rfl) ?_
        refine .cons (OpS.C0 (aRQuo (isr K (-n)) (isr (max K L) ((Nat.gcd (Int.natAbs (-n)) (Int.natAbs (-d)) : Nat) : Int)) (gcd_nz (by omega)) (gcd_dvd_l _ _) (M := K) (by omega) (by omega) (by omega)) rfl rfl rfl) ?_
        refine .cons (OpS.V (.d (.agg (rn L (-d)))) rfl) ?_
        refine .cons (OpS.V (.d (.agg (rn (max K L) ((Nat.gcd (Int.natAbs (-n)) (Int.natAbs (-d)) : Nat) : Int)))) rfl) ?_
        refine .cons (OpS.C0 (aRQuo (isr L (-d)) (isr (max K L) ((Nat.gcd (Int.natAbs (-n)) (Int.natAbs (-d)) : Nat) : Int)) (gcd_nz (by omega)) (gcd_dvd_r _ _) (M := L) (by omega) (by omega) (by omega)) rfl rfl rfl) ?_
        refine .cons (OpS.V (.d (.agg (rn K ((-n) / ((Nat.gcd (Int.natAbs (-n)) (Int.natAbs (-d)) : Nat) : Int)) ++ rn L ((-d) / ((Nat.gcd (Int.natAbs (-n)) (Int.natAbs (-d)) : Nat) : Int))))) rfl) ?_
        refine .nil ?_
        refine mS hTT 4 (.box 68 (rn K ((-n) / ((Nat.gcd (Int.natAbs (-n)) (Int.natAbs (-d)) : Nat) : Int)) ++ rn L ((-d) / ((Nat.gcd (Int.natAbs (-n)) (Int.natAbs (-d)) : Nat) : Int)))) rfl ?_
        refine mNil ?_
        refine tN ?_
        refine cRet ?_
        have hq : mkR n d = Rat.divInt (-n) (-d) := by rw [mkR_ne hd0, Rat.neg_divInt_neg]
        obtain ⟨e1, e2⟩ := mkR_pos (n := (-n)) (d := (-d)) hD
        exact rQ rfl (le_qn2 (by omega) (by omega) (by rw [hq]; exact e1.symm) (by rw [hq]; exact e2.symm))
    · skip
      refine cSkip ?_
      refine tN ?_
      refine cSeq ?_
      refine cSeq ?_
      have hdp : 0 < d := by have h0 := of_decide_eq_false hc3; omega
      by_cases hl1 : (digs4 d.natAbs).length = 1
      · skip
        refine cReg ?_
        refine mV hTT (.ptr 3 0) rfl ?_
        refine mV hTT (.d (.one (dn L d.natAbs))) rfl ?_
        refine mV hTT (.d (.one (.v (.int .i64 ((digs4 d.natAbs).length : Int))))) rfl ?_
        refine mV hTT (.d (.one (.v (.bool true)))) (evb (by rw [hl1]; rfl)) ?_
        refine mV hTT _ rfl ?_
        refine mV hTT (.ptr 3 0) rfl ?_
        refine mV hTT (.d (.one (dn L d.natAbs))) rfl ?_
        refine mView 21 (.d (.one (.row 1 ((digs4 d.natAbs).length) (fun i _ => .v (.int .i64 (((digs4 d.natAbs).getD i 0 : Nat) : Int)))))) rfl (le_drow _ _) ?_
        refine mV hTT (.d (.one (.at 1 ((fun i _ => .v (.int .i64 (((digs4 d.natAbs).getD i 0 : Nat) : Int))) 0)))) (ixR (el := (fun i _ => .v (.int .i64 (((digs4 d.natAbs).getD i 0 : Nat) : Int)))) (z := 0) (n := ((digs4 d.natAbs).length)) rfl rfl rfl rfl rfl rfl (by decide) (by rw [hl1]; decide)) ?_
        refine mV hTT (.d (.one (.v (.int .i64 (((digs4 d.natAbs).getD 0 0 : Nat) : Int))))) rfl ?_
        refine mV hTT (.d (.one (.v (.bool ((((digs4 d.natAbs).getD 0 0 : Nat) : Int) == 1))))) rfl ?_
        refine mV hTT _ rfl ?_
        refine mNil ?_
        refine tN ?_
        refine cCond rfl (fun hc5 => ?_) (fun hc5 => ?_)
        · skip
          refine cSeq ?_
          refine cReg ?_
          refine mV hTT (.d (.agg (rn K n))) rfl ?_
          refine mV hTT (.d (.agg (rn L d))) rfl ?_
          refine mV hTT (.d (.agg (rn K n ++ rn L d))) rfl ?_
          refine mS hTT 4 (.box 68 (rn K n ++ rn L d)) rfl ?_
          refine mNil ?_
          refine tN ?_
          refine cRet ?_
          refine tR ?_
          have hq : mkR n d = Rat.divInt n d := mkR_ne hd0
          have h1 : (d : Int) = 1 := by have h0 := digs1.1 ⟨hl1, Int.ofNat_inj.1 (eq_of_beq hc5)⟩; omega
          have hq1 : mkR n d = Rat.divInt n 1 := hq.trans (congrArg (Rat.divInt n) h1)
          obtain ⟨e1, e2⟩ := mkR_one n
          exact rQ rfl (le_qn2 (by omega) (by omega) (by rw [hq1]; exact e1.symm) (by rw [hq1]; exact h1.trans e2.symm))
        · skip
          refine cSkip ?_
          refine tN ?_
          refine cSeq ?_
          have hD : (0 : Int) < d := by omega
          refine cReg ?_
          refine mV hTT (.d (.agg (rn K n))) rfl ?_
          refine mV hTT (.d (.agg (rn L d))) rfl ?_
          refine mC0 (aRGcd (isr K n) (isr L d) (M := (max K L)) (by omega) (by omega)) rfl rfl rfl ?_
          refine mN hTT (.box 42 ([.v (.slice none 0 0), .v (.bool false)])) rfl rfl rfl ?_
          refine mS hTT 5 (.box 42 (rn (max K L) ((Nat.gcd (Int.natAbs n) (Int.natAbs d) : Nat) : Int))) rfl ?_
          refine mNil ?_
          refine tN ?_
          refine cSeq ?_
          refine cDrawK hTT 7 (by kernel_rfl) (by kernel_rfl) (by kernel_rfl) ?_
          refine .cons (OpS.V (.d (.agg (rn K n))) rfl) ?_
          refine .cons (OpS.V (.d (.agg (rn (max K L) ((Nat.gcd (Int.natAbs n) (Int.natAbs d) : Nat) : Int)))) rfl) ?_
          refine .cons (OpS.C0 (aRQuo (isr K n) (isr (max K L) ((Nat.gcd (Int.natAbs n) (Int.natAbs d) : Nat) : Int)) (gcd_nz (by omega)) (gcd_dvd_l _ _) (M := K) (by omega) (by omega) (by omega)) rfl rfl rfl) ?_
          refine .cons (OpS.V (.d (.agg (rn L d))) rfl) ?_
          refine .cons (OpS.V (.d (.agg (rn (max K L) ((Nat.gcd (Int.natAbs n) (Int.natAbs d) : Nat) : Int)))) rfl) ?_
          refine .cons (OpS.C0 (aRQuo (isr L d) (isr (max K L) ((Nat.gcd (Int.natAbs n) (Int.natAbs d) : Nat) : Int)) (gcd_nz (by omega)) (gcd_dvd_r _ _) (M := L) (by omega) (by omega) (by omega)) rfl rfl rfl) ?_
          refine .cons (OpS.V (.d (.agg (rn K (n / ((Nat.gcd (Int.natAbs n) (Int.natAbs d) : Nat) : Int)) ++ rn L (d / ((Nat.gcd (Int.natAbs n) (Int.natAbs d) : Nat) : Int))))) rfl) ?_
          refine .nil ?_
          refine mS hTT 4 (.box 68 (rn K (n / ((Nat.gcd (Int.natAbs n) (Int.natAbs d) : Nat) : Int)) ++ rn L (d / ((Nat.gcd (Int.natAbs n) (Int.natAbs d) : Nat) : Int)))) rfl ?_
          refine mNil ?_
          refine tN ?_
          refine cRet ?_
          have hq : mkR n d = Rat.divInt n d := mkR_ne hd0
          obtain ⟨e1, e2⟩ := mkR_pos (n := n) (d := d) hD
          exact rQ rfl (le_qn2 (by omega) (by omega) (by rw [hq]; exact e1.symm) (by rw [hq]; exact e2.symm))
      · skip
        refine cReg ?_
        refine mV hTT (.ptr 3 0) rfl ?_
        refine mV hTT (.d (.one (dn L d.natAbs))) rfl ?_
        refine mV hTT (.d (.one (.v (.int .i64 ((digs4 d.natAbs).length : Int))))) rfl ?_
        refine mV hTT (.d (.one (.v (.bool false)))) (evb (beq_eq_false_iff_ne.2 fun e => hl1 (by exact_mod_cast e))) ?_
        refine mV hTT _ rfl ?_
        refine mG rfl rfl ?_
        refine mG rfl rfl ?_
        refine mG rfl rfl ?_
        refine mG rfl rfl ?_
        refine mG rfl rfl ?_
        refine mV hTT _ rfl ?_
        refine mNil ?_
        refine tN ?_
        refine cF rfl ?_
        refine cSkip ?_
        refine tN ?_
        refine cSeq ?_
        have hD : (0 : Int) < d := by omega
        refine cReg ?_
        refine mV hTT (.d (.agg (rn K n))) rfl ?_
        refine mV hTT (.d (.agg (rn L d))) rfl ?_
        refine mC0 (aRGcd (isr K n) (isr L d) (M := (max K L)) (by omega) (by omega)) rfl rfl rfl ?_
        refine mN hTT (.box 42 ([.v (.slice none 0 0), .v (.bool false)])) rfl rfl rfl ?_
        refine mS hTT 5 (.box 42 (rn (max K L) ((Nat.gcd (Int.natAbs n) (Int.natAbs d) : Nat) : Int))) rfl ?_
        refine mNil ?_
        refine tN ?_
        refine cSeq ?_
        refine cDrawK hTT 7 (by kernel_rfl) (by kernel_rfl) (by kernel_rfl) ?_
        refine .cons (OpS.V (.d (.agg (rn K n))) rfl) ?_
        refine .cons (OpS.V (.d (.agg (rn (max K L) ((Nat.gcd (Int.natAbs n) (Int.natAbs d) : Nat) : Int)))) rfl) ?_
        refine .cons (OpS.C0 (aRQuo (isr K n) (isr (max K L) ((Nat.gcd (Int.natAbs n) (Int.natAbs d) : Nat) : Int)) (gcd_nz (by omega)) (gcd_dvd_l _ _) (M := K) (by omega) (by omega) (by omega)) rfl rfl rfl) ?_
        refine .cons (OpS.V (.d (.agg (rn L d))) rfl) ?_
        refine .cons (OpS.V (.d (.agg (rn (max K L) ((Nat.gcd (Int.natAbs n) (Int.natAbs d) : Nat) : Int)))) rfl) ?_
        refine .cons (OpS.C0 (aRQuo (isr L d) (isr (max K L) ((Nat.gcd (Int.natAbs n) (Int.natAbs d) : Nat) : Int)) (gcd_nz (by omega)) (gcd_dvd_r _ _) (M := L) (by omega) (by omega) (by omega)) rfl rfl rfl) ?_
        refine .cons (OpS.V (.d (.agg (rn K (n / ((Nat.gcd (Int.natAbs n) (Int.natAbs d) : Nat) : Int)) ++ rn L (d / ((Nat.gcd (Int.natAbs n) (Int.natAbs d) : Nat) : Int))))) rfl) ?_
        refine .nil ?_
        refine mS hTT 4 (.box 68 (rn K (n / ((Nat.gcd (Int.natAbs n) (Int.natAbs d) : Nat) : Int)) ++ rn L (d / ((Nat.gcd (Int.natAbs n) (Int.natAbs d) : Nat) : Int)))) rfl ?_
        refine mNil ?_
        refine tN ?_
        refine cRet ?_
        have hq : mkR n d = Rat.divInt n d := mkR_ne hd0
        obtain ⟨e1, e2⟩ := mkR_pos (n := n) (d := d) hD
        exact rQ rfl (le_qn2 (by omega) (by omega) (by rw [hq]; exact e1.symm) (by rw [hq]; exact e2.symm))

set_option maxRecDepth 100000 in
set_option maxHeartbeats 4000000 in
theorem aROfR {n d : Int} (h1 : -9223372036854775808 ≤ n := by decide) (h2 : n ≤ 9223372036854775807 := by decide) (h3 : -9223372036854775808 ≤ d := by decide) (h4 : d ≤ 9223372036854775807 := by decide) : ACall Try.prog 59 [.one (.v (.int .i64 n)), .one (.v (.int .i64 d))] (.d (.agg (qn 64 (mkR n d)))) := by
  refine acallN hTT 10 [.cell 4 68] Try.func59 rfl rfl rfl rfl rfl ?_
  refine cSeq ?_
  refine cReg ?_
  refine mN hTT (.box 68 ([.v (.slice none 0 0), .v (.bool false), .v (.slice none 0 0), .v (.bool false)])) rfl rfl rfl ?_
  refine mNil ?_
  refine tN ?_
  refine cSeq ?_
  refine cReg ?_
  refine mV hTT _ rfl ?_
  refine mC0 (aROf (n := n) h1 h2) rfl rfl rfl ?_
  refine mV hTT _ rfl ?_
  refine mC0 (aROf (n := d) h3 h4) rfl rfl rfl ?_
  refine mC0 (aRMake (isr 64 n) (isr 64 d) (M := 64) (by decide) (by decide)) rfl rfl rfl ?_
  refine mS hTT 4 (.box 68 (qn 64 (mkR n d))) rfl ?_
  refine mNil ?_
  refine tN ?_
  refine cRet ?_
  exact rQ rfl (AV.le.rfl)

theorem aROfI {n : Int} (h1 : -9223372036854775808 ≤ n := by decide) (h2 : n ≤ 9223372036854775807 := by decide) : ACall Try.prog 59 [.one (.v (.int .i64 n)), .one (.v (.int .i64 1))] (.d (.agg (qn 64 (n : Rat)))) := by
  have h := aROfR (d := 1) h1 h2 (by decide) (by decide)
  rw [mkR_int] at h; exact h
set_option maxRecDepth 100000 in
set_option maxHeartbeats 4000000 in
theorem aRAddR {a b : List Lf} {K L M : Nat} {x y : Rat} (ha : IsQ a K x) (hb : IsQ b L y) (hM : max (K + L + 1) 64 ≤ M := by decide) (hMM : M ≤ 10000000 := by decide) : ACall Try.prog 54 [.agg a, .agg b] (.d (.agg (qn M (x + y)))) := by
  refine ACall.le (dl (DV.g ha) (dl (DV.g hb) dl0)) AV.le.rfl ?_
  refine acallN hTT 22 [.cell 4 68] Try.func54 rfl rfl rfl rfl rfl ?_
  refine cSeq ?_
  refine cReg ?_
  refine mN hTT (.box 68 (rn K x.num ++ rn K (x.den : Int))) rfl rfl rfl ?_
  refine mN hTT (.box 68 (rn L y.num ++ rn L (y.den : Int))) rfl rfl rfl ?_
  refine mN hTT (.box 68 ([.v (.slice none 0 0), .v (.bool false), .v (.slice none 0 0), .v (.bool false)])) rfl rfl rfl ?_
  refine mNil ?_
  refine tN ?_
  refine cSeq ?_
  refine cDrawK hTT 17 (by kernel_rfl) (by kernel_rfl) (by kernel_rfl) ?_
  refine .cons (OpS.V (.ptr 2 0) rfl) ?_
  refine .cons (OpS.V (.d (.agg (rn K x.num))) rfl) ?_
  refine .cons (OpS.V (.ptr 3 2) rfl) ?_
  refine .cons (OpS.V (.d (.agg (rn L (y.den : Int)))) rfl) ?_
  refine .cons (OpS.C0 (aRMul (isr K x.num) (isr L (y.den : Int)) (M := (K + L)) (by omega) (by omega) (by omega)) rfl rfl rfl) ?_
  refine .cons (OpS.V (.ptr 3 0) rfl) ?_
  refine .cons (OpS.V (.d (.agg (rn L y.num))) rfl) ?_
  refine .cons (OpS.V (.ptr 2 2) rfl) ?_
  refine .cons (OpS.V (.d (.agg (rn K (x.den : Int)))) rfl) ?_
  refine .cons (OpS.C0 (aRMul (isr L y.num) (isr K (x.den : Int)) (M := (L + K)) (by omega) (by omega) (by omega)) rfl rfl rfl) ?_
  refine .cons (OpS.C0 (aRAdd (isr (K + L) (x.num * (y.den : Int))) (isr (L + K) (y.num * (x.den : Int))) (M := (max (K + L) (L + K) + 1)) (by omega) (by omega) (by omega)) rfl rfl rfl) ?_
  refine .cons (OpS.V (.ptr 2 2) rfl) ?_
  refine .cons (OpS.V (.d (.agg (rn K (x.den : Int)))) rfl) ?_
  refine .cons (OpS.V (.ptr 3 2) rfl) ?_
  refine .cons (OpS.V (.d (.agg (rn L (y.den : Int)))) rfl) ?_
  refine .cons (OpS.C0 (aRMul (isr K (x.den : Int)) (isr L (y.den : Int)) (M := (K + L)) (by omega) (by omega) (by omega)) rfl rfl rfl) ?_
  refine .cons (OpS.C0 (aRMake (isr (max (K + L) (L + K) + 1) ((x.num * (y.den : Int)) + (y.num * (x.den : Int)))) (isr (K + L) ((x.den : Int) * (y.den : Int))) (M := (max (max (K + L) (L + K) + 1) (max (K + L) 64))) (by omega) (by omega)) rfl rfl rfl) ?_
  refine .nil ?_
  refine mS hTT 4 (.box 68 (qn (max (max (K + L) (L + K) + 1) (max (K + L) 64)) (mkR ((x.num * (y.den : Int)) + (y.num * (x.den : Int))) ((x.den : Int) * (y.den : Int))))) rfl ?_
  refine mNil ?_
  refine tN ?_
  refine cRet ?_
  exact rQ rfl (le_qn (by omega) (mkR_add x y))

set_option maxRecDepth 100000 in
set_option maxHeartbeats 4000000 in
theorem aRMulR {a b : List Lf} {K L M : Nat} {x y : Rat} (ha : IsQ a K x) (hb : IsQ b L y) (hM : max (K + L + 1) 64 ≤ M := by decide) (hMM : M ≤ 10000000 := by decide) : ACall Try.prog 62 [.agg a, .agg b] (.d (.agg (qn M (x * y)))) := by
  refine ACall.le (dl (DV.g ha) (dl (DV.g hb) dl0)) AV.le.rfl ?_
  refine acallN hTT 16 [.cell 4 68] Try.func62 rfl rfl rfl rfl rfl ?_
  refine cSeq ?_
  refine cReg ?_
  refine mN hTT (.box 68 (rn K x.num ++ rn K (x.den : Int))) rfl rfl rfl ?_
  refine mN hTT (.box 68 (rn L y.num ++ rn L (y.den : Int))) rfl rfl rfl ?_
  refine mN hTT (.box 68 ([.v (.slice none 0 0), .v (.bool false), .v (.slice none 0 0), .v (.bool false)])) rfl rfl rfl ?_
  refine mNil ?_
  refine tN ?_
  refine cSeq ?_
  refine cDrawK hTT 11 (by kernel_rfl) (by kernel_rfl) (by kernel_rfl) ?_
  refine .cons (OpS.V (.ptr 2 0) rfl) ?_
  refine .cons (OpS.V (.d (.agg (rn K x.num))) rfl) ?_
  refine .cons (OpS.V (.ptr 3 0) rfl) ?_
  refine .cons (OpS.V (.d (.agg (rn L y.num))) rfl) ?_
  refine .cons (OpS.C0 (aRMul (isr K x.num) (isr L y.num) (M := (K + L)) (by omega) (by omega) (by omega)) rfl rfl rfl) ?_
  refine .cons (OpS.V (.ptr 2 2) rfl) ?_
  refine .cons (OpS.V (.d (.agg (rn K (x.den : Int)))) rfl) ?_
  refine .cons (OpS.V (.ptr 3 2) rfl) ?_
  refine .cons (OpS.V (.d (.agg (rn L (y.den : Int)))) rfl) ?_
  refine .cons (OpS.C0 (aRMul (isr K (x.den : Int)) (isr L (y.den : Int)) (M := (K + L)) (by omega) (by omega) (by omega)) rfl rfl rfl) ?_
  refine .cons (OpS.C0 (aRMake (isr (K + L) (x.num * y.num)) (isr (K + L) ((x.den : Int) * (y.den : Int))) (M := (max (K + L) (max (K + L) 64))) (by omega) (by omega)) rfl rfl rfl) ?_
  refine .nil ?_
  refine mS hTT 4 (.box 68 (qn (max (K + L) (max (K + L) 64)) (mkR (x.num * y.num) ((x.den : Int) * (y.den : Int))))) rfl ?_
  refine mNil ?_
  refine tN ?_
  refine cRet ?_
  exact rQ rfl (le_qn (by omega) (mkR_mul x y))

end Go.Proofs.Ytlkdlicbhhackaa

/-
  POLYNOMIALS, by the machine (1).
-/
set_option linter.unusedVariables false
set_option linter.unusedSimpArgs false
namespace Go.Proofs.Ytlkdlicbhhackaa
open Go.RowKit

set_option maxRecDepth 100000 in
set_option maxHeartbeats 4000000 in
theorem aPCut {K n : Nat} {c : Nat → Int} (hn : n ≤ 1000000) : ACall Try.prog 63 [.one (prow K n c)] (.d (.one (prow K (dg c n) c))) := by
  refine acallN hTT 21 [.tmp 2] Try.func63 rfl rfl rfl rfl rfl ?_
  refine cSeq ?_
  refine cReg ?_
  refine mV hTT _ rfl ?_
  refine mNil ?_
  refine tN ?_
  refine cSeq ?_
  refine cReg ?_
  refine mV hTT _ rfl ?_
  refine mV hTT (.d (.one (.v (.int .i64 (n : Int))))) rfl ?_
  refine mV hTT _ rfl ?_
  refine mNil ?_
  refine tN ?_
  refine cSeq ?_
  refine cBlock ?_
  refine cLoop (ι := Nat) (fun (k : Nat) => ⟨21, [(0, .d (.one (.row 2 n (zel K c)))), (3, .d (.one (.v (.int .i64 ((k : Nat) : Int)))))], []⟩) (fun (k : Nat) => k ≤ n ∧ dg c n = dg c k) (fun (k : Nat) => k) n (⟨Nat.le_refl _, rfl⟩) (wk (sl := [(0, .d (.one (.row 2 n (zel K c)))), (3, .d (.one (.v (.int .i64 ((n : Nat) : Int)))))]) (hp := []) rfl ⟨hs rfl, hs rfl, trivial⟩ trivial rfl) ?_
  rintro k hI
  obtain ⟨hkn, hk⟩ : k ≤ n ∧ dg c n = dg c k := hI
  show AW Try.prog _ _ ⟨21, [(0, .d (.one (.row 2 n (zel K c)))), (3, .d (.one (.v (.int .i64 ((k : Nat) : Int)))))], []⟩
  refine cSeq ?_
  refine cSeq ?_
  by_cases hk0 : k = 0
  · skip
    refine cReg ?_
    refine mV hTT _ rfl ?_
    refine mV hTT (.d (.one (.v (.bool false)))) (evb (decide_eq_false (by omega))) ?_
    refine mV hTT _ rfl ?_
    refine mG rfl rfl ?_
    refine mG rfl rfl ?_
    refine mG rfl rfl ?_
    refine mG rfl rfl ?_
    refine mG rfl rfl ?_
    refine mG rfl rfl ?_
    refine mV hTT _ rfl ?_
    refine mNil ?_
    refine tN ?_
    refine cF rfl ?_
    refine cExit ?_
    refine tE ?_
    refine tE ?_
    refine bE ?_
    refine tN ?_
    refine cSeq ?_
    have hd : k = dg c n := by rw [hk, hk0]; rfl
    refine cReg ?_
    refine mV hTT _ rfl ?_
    refine mV hTT _ rfl ?_
    refine mV hTT (.d (.one (.row 2 k (zel K c)))) (slR (z := (k : Int)) (n := n) rfl rfl rfl rfl rfl rfl (by omega) (by omega)) ?_
    refine mV hTT _ rfl ?_
    refine mNil ?_
    refine tN ?_
    refine cRet ?_
    exact rQ rfl (le_prow (Nat.le_refl _) hd (fun _ _ => rfl))
  · skip
    refine cReg ?_
    refine mV hTT _ rfl ?_
    refine mV hTT (.d (.one (.v (.bool true)))) (evb (decide_eq_true (by omega))) ?_
    refine mV hTT _ rfl ?_
    refine mV hTT _ rfl ?_
    refine mV hTT _ rfl ?_
    refine mV hTT (.d (.one (.v (.int .i64 ((k - 1 : Nat) : Int))))) (evi ((wr64 (by omega) (by omega)).trans (by omega))) ?_
    refine mV hTT (.d (.one (.at 2 ((zel K c) (k - 1))))) (ixR (el := (zel K c)) (z := ((k - 1 : Nat) : Int)) (n := n) rfl rfl rfl rfl rfl rfl (by omega) (by omega)) ?_
    refine mV hTT (.d (.agg (zn K (c (k - 1))))) rfl ?_
    refine mC0 (aZero (isn K (c (k - 1)))) rfl rfl rfl ?_
    refine mV hTT _ rfl ?_
    refine mNil ?_
    refine tN ?_
    refine cCond rfl (fun hc1 => ?_) (fun hc1 => ?_)
    · skip
      refine cSkip ?_
      refine tN ?_
      refine cBlock ?_
      have hc0 : c (k - 1) = 0 := of_decide_eq_true hc1
      refine cReg ?_
      refine mV hTT _ rfl ?_
      refine mV hTT (.d (.one (.v (.int .i64 ((k - 1 : Nat) : Int))))) (evi ((wr64 (by omega) (by omega)).trans (by omega))) ?_
      refine mV hTT _ rfl ?_
      refine mNil ?_
      refine bN ?_
      exact ⟨(k - 1), ⟨by omega, dg_down hk hk0 hc0⟩, by omega, wk (sl := [(0, .d (.one (.row 2 n (zel K c)))), (3, .d (.one (.v (.int .i64 (((k - 1) : Nat) : Int)))))]) (hp := []) rfl ⟨hs rfl, hs rfl, trivial⟩ trivial rfl⟩
    · skip
      refine cExit ?_
      refine tE ?_
      refine tE ?_
      refine bE ?_
      refine tN ?_
      refine cSeq ?_
      have hd : k = dg c n := by rw [hk]; exact (dg_stop (Or.inr fun e => of_decide_eq_false hc1 e)).symm
      refine cReg ?_
      refine mV hTT _ rfl ?_
      refine mV hTT _ rfl ?_
      refine mV hTT (.d (.one (.row 2 k (zel K c)))) (slR (z := (k : Int)) (n := n) rfl rfl rfl rfl rfl rfl (by omega) (by omega)) ?_
      refine mV hTT _ rfl ?_
      refine mNil ?_
      refine tN ?_
      refine cRet ?_
      exact rQ rfl (le_prow (Nat.le_refl _) hd (fun _ _ => rfl))

set_option maxRecDepth 100000 in
set_option maxHeartbeats 4000000 in
theorem aQCut {K n : Nat} {c : Nat → Rat} (hn : n ≤ 1000000) : ACall Try.prog 56 [.one (qrow K n c)] (.d (.one (qrow K (dg c n) c))) := by
  refine acallN hTT 22 [.tmp 2] Try.func56 rfl rfl rfl rfl rfl ?_
  refine cSeq ?_
  refine cReg ?_
  refine mV hTT _ rfl ?_
  refine mNil ?_
  refine tN ?_
  refine cSeq ?_
  refine cReg ?_
  refine mV hTT _ rfl ?_
  refine mV hTT (.d (.one (.v (.int .i64 (n : Int))))) rfl ?_
  refine mV hTT _ rfl ?_
  refine mNil ?_
  refine tN ?_
  refine cSeq ?_
  refine cBlock ?_
  refine cLoop (ι := Nat) (fun (k : Nat) => ⟨22, [(0, .d (.one (.row 4 n (qel K c)))), (3, .d (.one (.v (.int .i64 ((k : Nat) : Int)))))], []⟩) (fun (k : Nat) => k ≤ n ∧ dg c n = dg c k) (fun (k : Nat) => k) n (⟨Nat.le_refl _, rfl⟩) (wk (sl := [(0, .d (.one (.row 4 n (qel K c)))), (3, .d (.one (.v (.int .i64 ((n : Nat) : Int)))))]) (hp := []) rfl ⟨hs rfl, hs rfl, trivial⟩ trivial rfl) ?_
  rintro k hI
  obtain ⟨hkn, hk⟩ : k ≤ n ∧ dg c n = dg c k := hI
  show AW Try.prog _ _ ⟨22, [(0, .d (.one (.row 4 n (qel K c)))), (3, .d (.one (.v (.int .i64 ((k : Nat) : Int)))))], []⟩
  refine cSeq ?_
  refine cSeq ?_
  by_cases hk0 : k = 0
  · skip
    refine cReg ?_
    refine mV hTT _ rfl ?_
    refine mV hTT (.d (.one (.v (.bool false)))) (evb (decide_eq_false (by omega))) ?_
    refine mV hTT _ rfl ?_
    refine mG rfl rfl ?_
    refine mG rfl rfl ?_
    refine mG rfl rfl ?_
    refine mG rfl rfl ?_
    refine mG rfl rfl ?_
    refine mG rfl rfl ?_
    refine mG rfl rfl ?_
    refine mV hTT _ rfl ?_
    refine mNil ?_
    refine tN ?_
    refine cF rfl ?_
    refine cExit ?_
    refine tE ?_
    refine tE ?_
    refine bE ?_
    refine tN ?_
    refine cSeq ?_
    have hd : k = dg c n := by rw [hk, hk0]; rfl
    refine cReg ?_
    refine mV hTT _ rfl ?_
    refine mV hTT _ rfl ?_
    refine mV hTT (.d (.one (.row 4 k (qel K c)))) (slR (z := (k : Int)) (n := n) rfl rfl rfl rfl rfl rfl (by omega) (by omega)) ?_
    refine mV hTT _ rfl ?_
    refine mNil ?_
    refine tN ?_
    refine cRet ?_
    exact rQ rfl (le_qrow (Nat.le_refl _) hd (fun _ _ => rfl))
  · skip
    refine cReg ?_
    refine mV hTT _ rfl ?_
    refine mV hTT (.d (.one (.v (.bool true)))) (evb (decide_eq_true (by omega))) ?_
    refine mV hTT _ rfl ?_
    refine mV hTT _ rfl ?_
    refine mV hTT _ rfl ?_
    refine mV hTT (.d (.one (.v (.int .i64 ((k - 1 : Nat) : Int))))) (evi ((wr64 (by omega) (by omega)).trans (by omega))) ?_
    refine mV hTT (.d (.one (.at 4 ((qel K c) (k - 1))))) (ixR (el := (qel K c)) (z := ((k - 1 : Nat) : Int)) (n := n) rfl rfl rfl rfl rfl rfl (by omega) (by omega)) ?_
    refine mV hTT _ rfl ?_
    refine mV hTT (.d (.agg (rn K (Rat.num (c (k - 1)))))) rfl ?_
    refine mC0 (aRZero (isr K (Rat.num (c (k - 1))))) rfl rfl rfl ?_
    refine mV hTT _ rfl ?_
    refine mNil ?_
    refine tN ?_
    refine cCond rfl (fun hc1 => ?_) (fun hc1 => ?_)
    · skip
      refine cSkip ?_
      refine tN ?_
      refine cBlock ?_
      have hc0 : (c (k - 1)).num = 0 := of_decide_eq_true hc1
      refine cReg ?_
      refine mV hTT _ rfl ?_
      refine mV hTT (.d (.one (.v (.int .i64 ((k - 1 : Nat) : Int))))) (evi ((wr64 (by omega) (by omega)).trans (by omega))) ?_
      refine mV hTT _ rfl ?_
      refine mNil ?_
      refine bN ?_
      exact ⟨(k - 1), ⟨by omega, dg_down hk hk0 (Rat.num_eq_zero.1 hc0)⟩, by omega, wk (sl := [(0, .d (.one (.row 4 n (qel K c)))), (3, .d (.one (.v (.int .i64 (((k - 1) : Nat) : Int)))))]) (hp := []) rfl ⟨hs rfl, hs rfl, trivial⟩ trivial rfl⟩
    · skip
      refine cExit ?_
      refine tE ?_
      refine tE ?_
      refine bE ?_
      refine tN ?_
      refine cSeq ?_
      have hd : k = dg c n := by rw [hk]; exact (dg_stop (Or.inr fun e => of_decide_eq_false hc1 (by show (c (k - 1)).num = 0; rw [e]; rfl))).symm
      refine cReg ?_
      refine mV hTT _ rfl ?_
      refine mV hTT _ rfl ?_
      refine mV hTT (.d (.one (.row 4 k (qel K c)))) (slR (z := (k : Int)) (n := n) rfl rfl rfl rfl rfl rfl (by omega) (by omega)) ?_
      refine mV hTT _ rfl ?_
      refine mNil ?_
      refine tN ?_
      refine cRet ?_
      exact rQ rfl (le_qrow (Nat.le_refl _) hd (fun _ _ => rfl))

end Go.Proofs.Ytlkdlicbhhackaa

/-
  POLYNOMIALS, by the machine (2): the plain reckoning; what is handed in, cut.
-/
set_option linter.unusedVariables false
set_option linter.unusedSimpArgs false
namespace Go.Proofs.Ytlkdlicbhhackaa
open Go.RowKit

set_option maxRecDepth 100000 in
set_option maxHeartbeats 4000000 in
theorem aKInt {K k : Nat} {s : Bool} {xs : List Nat} (hk : k ≤ 1000000 := by decide) (hK : K ≤ 9223372036854775807 := by decide) : ACall Try.prog 69 [.agg [.v (.bool s), lr K xs], .one (.v (.int .i64 (k : Int)))] (.d (.agg [.v (.bool s), lr k (xs.take k)])) := by
  refine acallN hTT 12 [.cell 4 36] Try.func69 rfl rfl rfl rfl rfl ?_
  refine cSeq ?_
  refine cReg ?_
  refine mN hTT (.box 36 ([.v (.bool s), lr K xs])) rfl rfl rfl ?_
  refine mN hTT (.box 36 ([.v (.bool false), .v (.slice none 0 0)])) rfl rfl rfl ?_
  refine mNil ?_
  refine tN ?_
  refine cSeq ?_
  refine cDrawK hTT 7 (by kernel_rfl) (by kernel_rfl) (by kernel_rfl) ?_
  refine .cons (OpS.V (.ptr 2 0) rfl) ?_
  refine .cons (OpS.V (.d (.one (.v (.bool s)))) rfl) ?_
  refine .cons (OpS.V (.ptr 2 1) rfl) ?_
  refine .cons (OpS.V (.d (.one (lr K xs))) rfl) ?_
  refine .cons (OpS.V _ rfl) ?_
  refine .cons (OpS.C0 (aRow (K := K) (k := k) (xs := xs) (by omega) (by omega)) rfl rfl rfl) ?_
  refine .cons (OpS.V (.d (.agg ([.v (.bool s), lr k (xs.take k)]))) rfl) ?_
  refine .nil ?_
  refine mS hTT 4 (.box 36 ([.v (.bool s), lr k (xs.take k)])) rfl ?_
  refine mNil ?_
  refine tN ?_
  refine cRet ?_
  exact rQ rfl (AV.le.rfl)

set_option maxRecDepth 100000 in
set_option maxHeartbeats 4000000 in
theorem aKPoly {K n m k : Nat} {f : Nat → Bool × List Nat} (hm : m ≤ 1000 := by decide) (hk : k ≤ 1000 := by decide) (hK : K ≤ 9223372036854775807 := by decide) : ACall Try.prog 47 [.one (arow K n f), .one (.v (.int .i64 (m : Int))), .one (.v (.int .i64 (k : Int)))] (.d (.one (arow k (min n m) (cutf k f)))) := by
  refine acallN hTT 30 [.tmp 6] Try.func47 rfl rfl rfl rfl rfl ?_
  refine cSeq ?_
  refine cReg ?_
  refine mV hTT _ rfl ?_
  refine mNil ?_
  refine tN ?_
  refine cSeq ?_
  refine cReg ?_
  refine mV hTT _ rfl ?_
  refine mNil ?_
  refine tN ?_
  refine cSeq ?_
  refine cSeq ?_
  refine AW.wk (wkNil 7 7 36 2 (fun _ _ => .v undef) rfl rfl) ?_
  refine cReg ?_
  refine mV hTT _ rfl ?_
  refine mNil ?_
  refine tN ?_
  refine cBlock ?_
  refine cLoop (ι := Nat) (fun (i : Nat) => ⟨30, [(0, .d (.one (.row 2 n (ael K f)))), (1, .d (.one (.v (.int .i64 (m : Int))))), (2, .d (.one (.v (.int .i64 (k : Int))))), (8, .d (.one (.v (.int .i64 ((i : Nat) : Int))))), (7, .own 7)], [(7, .row 36 2 i (ael k (cutf k f)))]⟩) (fun (i : Nat) => i ≤ min n m) (fun (i : Nat) => min n m - i) 0 (Nat.zero_le _) (wk (sl := [(0, .d (.one (.row 2 n (ael K f)))), (1, .d (.one (.v (.int .i64 (m : Int))))), (2, .d (.one (.v (.int .i64 (k : Int))))), (8, .d (.one (.v (.int .i64 ((0 : Nat) : Int))))), (7, .own 7)]) (hp := [(7, .row 36 2 0 (ael k (cutf k f)))]) rfl ⟨hs rfl, hs rfl, hs rfl, hs rfl, hs rfl, trivial⟩ ⟨ho' rfl (leo_row0), trivial⟩ rfl) ?_
  rintro i hI
  have hi : i ≤ min n m := hI
  show AW Try.prog _ _ ⟨30, [(0, .d (.one (.row 2 n (ael K f)))), (1, .d (.one (.v (.int .i64 (m : Int))))), (2, .d (.one (.v (.int .i64 (k : Int))))), (8, .d (.one (.v (.int .i64 ((i : Nat) : Int))))), (7, .own 7)], [(7, .row 36 2 i (ael k (cutf k f)))]⟩
  refine cSeq ?_
  refine cSeq ?_
  by_cases hin : i < n
  · skip
    refine cReg ?_
    refine mV hTT _ rfl ?_
    refine mV hTT _ rfl ?_
    refine mV hTT (.d (.one (.v (.int .i64 (n : Int))))) rfl ?_
    refine mV hTT (.d (.one (.v (.bool true)))) (evb (decide_eq_true (by omega))) ?_
    refine mV hTT _ rfl ?_
    refine mV hTT _ rfl ?_
    refine mV hTT _ rfl ?_
    refine mV hTT (.d (.one (.v (.bool (decide (((i : Nat) : Int) < (m : Int))))))) rfl ?_
    refine mV hTT _ rfl ?_
    refine mNil ?_
    refine tN ?_
    refine cCond rfl (fun hc1 => ?_) (fun hc1 => ?_)
    · skip
      refine cSkip ?_
      refine tN ?_
      refine cSeq ?_
      refine cBlock ?_
      have him : i < m := by have h0 := of_decide_eq_true hc1; omega
      refine cReg ?_
      refine mV hTT _ rfl ?_
      refine mV hTT _ rfl ?_
      refine mV hTT _ rfl ?_
      refine mV hTT (.d (.one (.at 2 ((ael K f) i)))) (ixR (el := (ael K f)) (z := ((i : Nat) : Int)) (n := n) rfl rfl rfl rfl rfl rfl (by omega) (by omega)) ?_
      refine mV hTT (.d (.agg ([.v (.bool ((f i).1)), lr K ((f i).2)]))) rfl ?_
      refine mV hTT _ rfl ?_
      refine mC0 (aKInt (K := K) (k := k) (s := (f i).1) (xs := (f i).2) (by omega) (by omega)) rfl rfl rfl ?_
      refine mB hTT (.d (.one (.row 2 1 (fun i' j' => (([.v (.bool ((f i).1)), lr k (((f i).2).take k)])[i' * 2 + j']?).getD (.v undef))))) rfl ?_
      refine mA hTT (id := 7) (n := i) (m := 1) (el := (ael k (cutf k f))) (el2 := (fun i' j' => (([.v (.bool ((f i).1)), lr k (((f i).2).take k)])[i' * 2 + j']?).getD (.v undef))) rfl rfl rfl (by show (i + 1) * 32 ≤ 140737488355328; omega) (by omega) rfl rfl rfl rfl rfl rfl rfl rfl rfl rfl ?_
      refine mV hTT _ rfl ?_
      refine mNil ?_
      refine bN ?_
      refine tN ?_
      refine cReg ?_
      refine mV hTT _ rfl ?_
      refine mV hTT (.d (.one (.v (.int .i64 (IntKind.i64.wrap (((i : Nat) : Int) + 1)))))) rfl ?_
      refine mV hTT _ rfl ?_
      refine mNil ?_
      exact ⟨(i + 1), by omega, by omega, wk (sl := [(0, .d (.one (.row 2 n (ael K f)))), (1, .d (.one (.v (.int .i64 (m : Int))))), (2, .d (.one (.v (.int .i64 (k : Int))))), (8, .d (.one (.v (.int .i64 (((i + 1) : Nat) : Int))))), (7, .own 7)]) (hp := [(7, .row 36 2 (i + 1) (ael k (cutf k f)))]) rfl ⟨hs rfl, hs rfl, hs rfl, hs' rfl (le_int (inc64 (by omega))), hs rfl, trivial⟩ ⟨ho' rfl (app_a rfl (Nat.le_refl _) (Nat.le_refl _)), trivial⟩ rfl⟩
    · skip
      refine cExit ?_
      refine tE ?_
      refine tE ?_
      refine bE ?_
      refine tN ?_
      refine cSeq ?_
      have hie : min n m = i := by have h0 := of_decide_eq_false hc1; omega
      subst hie
      refine AW.wk (wkRow 7 rfl) ?_
      refine cReg ?_
      refine mV hTT _ rfl ?_
      refine mV hTT _ rfl ?_
      refine mNil ?_
      refine tN ?_
      refine cRet ?_
      exact rQ rfl (AV.le.rfl)
  · skip
    refine cReg ?_
    refine mV hTT _ rfl ?_
    refine mV hTT _ rfl ?_
    refine mV hTT (.d (.one (.v (.int .i64 (n : Int))))) rfl ?_
    refine mV hTT (.d (.one (.v (.bool false)))) (evb (decide_eq_false (by omega))) ?_
    refine mV hTT _ rfl ?_
    refine mG rfl rfl ?_
    refine mG rfl rfl ?_
    refine mG rfl rfl ?_
    refine mV hTT _ rfl ?_
    refine mNil ?_
    refine tN ?_
    refine cF rfl ?_
    refine cExit ?_
    refine tE ?_
    refine tE ?_
    refine bE ?_
    refine tN ?_
    refine cSeq ?_
    have hie : min n m = i := by skip; omega
    subst hie
    refine AW.wk (wkRow 7 rfl) ?_
    refine cReg ?_
    refine mV hTT _ rfl ?_
    refine mV hTT _ rfl ?_
    refine mNil ?_
    refine tN ?_
    refine cRet ?_
    exact rQ rfl (AV.le.rfl)

set_option maxRecDepth 100000 in
set_option maxHeartbeats 4000000 in
theorem aQZero : ACall Try.prog 61 [] (.d (.agg (qn 64 0))) := by
  refine acallN hTT 2 [.cell 0 68] Try.func61 rfl rfl rfl rfl rfl ?_
  refine cSeq ?_
  refine cReg ?_
  refine mN hTT (.box 68 ([.v (.slice none 0 0), .v (.bool false), .v (.slice none 0 0), .v (.bool false)])) rfl rfl rfl ?_
  refine mNil ?_
  refine tN ?_
  refine cSeq ?_
  refine cReg ?_
  refine mC0 (aROfI (n := 0) (by decide) (by decide)) rfl rfl rfl ?_
  refine mS hTT 0 (.box 68 (qn 64 ((0 : Int) : Rat))) rfl ?_
  refine mNil ?_
  refine tN ?_
  refine cRet ?_
  exact rQ rfl (le_qn (Nat.le_refl _) rfl)

set_option maxRecDepth 100000 in
set_option maxHeartbeats 4000000 in
theorem aQFrom {a : Lf} {K M n : Nat} {c : Nat → Int} (ha : IsP a K n c) (hM : max (3 * K) 64 ≤ M := by decide) (hn : n ≤ 1000000 := by decide) (hMM : M ≤ 10000000 := by decide) : ACall Try.prog 48 [.one a] (.d (.one (qrow M (dg (rc c) (n)) (rc c)))) := by
  obtain ⟨⟨fa, ha, ea⟩, za⟩ := ha
  refine ACall.le (dl (DV.l ha) dl0) AV.le.rfl ?_
  refine acallN hTT 23 [.tmp 2] Try.func48 rfl rfl rfl rfl rfl ?_
  refine cSeq ?_
  refine cReg ?_
  refine mV hTT _ rfl ?_
  refine mNil ?_
  refine tN ?_
  refine cSeq ?_
  refine cReg ?_
  refine mV hTT _ rfl ?_
  refine mNil ?_
  refine tN ?_
  refine cSeq ?_
  refine cSeq ?_
  refine AW.wk (wkNil 3 3 68 4 (fun _ _ => .v undef) rfl rfl) ?_
  refine cReg ?_
  refine mV hTT _ rfl ?_
  refine mV hTT (.d (.one (.v (.int .i64 (n : Int))))) rfl ?_
  refine mV hTT _ rfl ?_
  refine mNil ?_
  refine tN ?_
  refine cBlock ?_
  refine cLoop (ι := Nat) (fun (i : Nat) => ⟨23, [(0, .d (.one (.row 2 n (ael K fa)))), (5, .d (.one (.row 2 n (ael K fa)))), (6, .d (.one (.v (.int .i64 (n : Int))))), (7, .d (.one (.v (.int .i64 ((i : Nat) : Int))))), (3, .own 3)], [(3, .row 68 4 i (qel M (rc c)))]⟩) (fun (i : Nat) => i ≤ n) (fun (i : Nat) => n - i) 0 (Nat.zero_le _) (wk (sl := [(0, .d (.one (.row 2 n (ael K fa)))), (5, .d (.one (.row 2 n (ael K fa)))), (6, .d (.one (.v (.int .i64 (n : Int))))), (7, .d (.one (.v (.int .i64 ((0 : Nat) : Int))))), (3, .own 3)]) (hp := [(3, .row 68 4 0 (qel M (rc c)))]) rfl ⟨hs rfl, hs rfl, hs rfl, hs rfl, hs rfl, trivial⟩ ⟨ho' rfl (leo_row0), trivial⟩ rfl) ?_
  rintro i hI
  have hi : i ≤ n := hI
  show AW Try.prog _ _ ⟨23, [(0, .d (.one (.row 2 n (ael K fa)))), (5, .d (.one (.row 2 n (ael K fa)))), (6, .d (.one (.v (.int .i64 (n : Int))))), (7, .d (.one (.v (.int .i64 ((i : Nat) : Int))))), (3, .own 3)], [(3, .row 68 4 i (qel M (rc c)))]⟩
  refine cSeq ?_
  refine cReg ?_
  refine mV hTT (.d (.one (.v (.bool (decide (((i : Nat) : Int) < (n : Int))))))) rfl ?_
  refine mNil ?_
  refine tN ?_
  refine cSeq ?_
  refine cCond rfl (fun hc1 => ?_) (fun hc1 => ?_)
  · skip
    refine cSkip ?_
    refine tN ?_
    refine cSeq ?_
    refine cBlock ?_
    refine cSeq ?_
    refine cReg ?_
    refine mV hTT _ rfl ?_
    refine mV hTT _ rfl ?_
    refine mNil ?_
    refine tN ?_
    have hin : i < n := by have h0 := of_decide_eq_true hc1; omega
    refine cReg ?_
    refine mV hTT _ rfl ?_
    refine mV hTT _ rfl ?_
    refine mV hTT _ rfl ?_
    refine mV hTT (.d (.one (.at 2 ((ael K fa) i)))) (ixR (el := (ael K fa)) (z := ((i : Nat) : Int)) (n := n) rfl rfl rfl rfl rfl rfl (by omega) (by omega)) ?_
    refine mV hTT (.d (.agg ([.v (.bool ((fa i).1)), lr K ((fa i).2)]))) rfl ?_
    refine mC0 (aRFrom ⟨_, _, fun _ _ _ h => h, ea i (by omega)⟩ (M := (3 * K)) (by omega) (by omega)) rfl rfl rfl ?_
    refine mC0 (aROf (n := 1) (by decide) (by decide)) rfl rfl rfl ?_
    refine mC0 (aRMake (isr (3 * K) (c i)) (isr 64 1) (M := (max (3 * K) (max 64 64))) (by omega) (by omega)) rfl rfl rfl ?_
    refine mB hTT (.d (.one (.row 4 1 (fun i' j' => ((qn (max (3 * K) (max 64 64)) (mkR (c i) 1))[i' * 4 + j']?).getD (.v undef))))) rfl ?_
    refine mA hTT (id := 3) (n := i) (m := 1) (el := (qel M (rc c))) (el2 := (fun i' j' => ((qn (max (3 * K) (max 64 64)) (mkR (c i) 1))[i' * 4 + j']?).getD (.v undef))) rfl rfl rfl (by show (i + 1) * 64 ≤ 140737488355328; omega) (by omega) rfl rfl rfl rfl rfl rfl rfl rfl rfl rfl ?_
    refine mV hTT _ rfl ?_
    refine mNil ?_
    refine bN ?_
    refine tN ?_
    refine cReg ?_
    refine mV hTT (.d (.one (.v (.int .i64 (IntKind.i64.wrap (((i : Nat) : Int) + 1)))))) rfl ?_
    refine mV hTT _ rfl ?_
    refine mNil ?_
    exact ⟨(i + 1), by omega, by omega, wk (sl := [(0, .d (.one (.row 2 n (ael K fa)))), (5, .d (.one (.row 2 n (ael K fa)))), (6, .d (.one (.v (.int .i64 (n : Int))))), (7, .d (.one (.v (.int .i64 (((i + 1) : Nat) : Int))))), (3, .own 3)]) (hp := [(3, .row 68 4 (i + 1) (qel M (rc c)))]) rfl ⟨hs rfl, hs rfl, hs rfl, hs' rfl (le_int (inc64 (by omega))), hs rfl, trivial⟩ ⟨ho' rfl (app_q rfl (Nat.le_refl _) (by omega) (mkR_int _) (fun _ _ => rfl)), trivial⟩ rfl⟩
  · skip
    refine cExit ?_
    refine tE ?_
    refine tE ?_
    refine bE ?_
    refine tN ?_
    refine cSeq ?_
    have hie : n = i := by have h0 := of_decide_eq_false hc1; omega
    subst hie
    refine AW.wk (wkRow 3 rfl) ?_
    refine cReg ?_
    refine mV hTT _ rfl ?_
    refine mC0 (aQCut (K := M) (n := n) (c := (rc c)) (by omega)) rfl rfl rfl ?_
    refine mV hTT _ rfl ?_
    refine mNil ?_
    refine tN ?_
    refine cRet ?_
    exact rQ rfl (AV.le.rfl)

set_option maxRecDepth 100000 in
set_option maxHeartbeats 4000000 in
theorem aQOf {a : Lf} {n : Nat} {c : Nat → Int} (ha : IsI a n c) (hb : ∀ i, i < n → -9223372036854775808 ≤ c i ∧ c i ≤ 9223372036854775807) (hn : n ≤ 1000000 := by decide) : ACall Try.prog 68 [.one a] (.d (.one (qrow 64 (dg (rc c) (n)) (rc c)))) := by
  obtain ⟨ha, za⟩ := ha
  refine ACall.le (dl (DV.l ha) dl0) AV.le.rfl ?_
  refine acallN hTT 21 [.tmp 2] Try.func68 rfl rfl rfl rfl rfl ?_
  refine cSeq ?_
  refine cReg ?_
  refine mV hTT _ rfl ?_
  refine mNil ?_
  refine tN ?_
  refine cSeq ?_
  refine cReg ?_
  refine mV hTT _ rfl ?_
  refine mNil ?_
  refine tN ?_
  refine cSeq ?_
  refine cSeq ?_
  refine AW.wk (wkNil 3 3 68 4 (fun _ _ => .v undef) rfl rfl) ?_
  refine cReg ?_
  refine mV hTT _ rfl ?_
  refine mV hTT (.d (.one (.v (.int .i64 (n : Int))))) rfl ?_
  refine mV hTT _ rfl ?_
  refine mNil ?_
  refine tN ?_
  refine cBlock ?_
  refine cLoop (ι := Nat) (fun (i : Nat) => ⟨21, [(0, .d (.one (.row 1 n (fun i _ => .v (.int .i64 (c i)))))), (5, .d (.one (.row 1 n (fun i _ => .v (.int .i64 (c i)))))), (6, .d (.one (.v (.int .i64 (n : Int))))), (7, .d (.one (.v (.int .i64 ((i : Nat) : Int))))), (3, .own 3)], [(3, .row 68 4 i (qel 64 (rc c)))]⟩) (fun (i : Nat) => i ≤ n) (fun (i : Nat) => n - i) 0 (Nat.zero_le _) (wk (sl := [(0, .d (.one (.row 1 n (fun i _ => .v (.int .i64 (c i)))))), (5, .d (.one (.row 1 n (fun i _ => .v (.int .i64 (c i)))))), (6, .d (.one (.v (.int .i64 (n : Int))))), (7, .d (.one (.v (.int .i64 ((0 : Nat) : Int))))), (3, .own 3)]) (hp := [(3, .row 68 4 0 (qel 64 (rc c)))]) rfl ⟨hs rfl, hs rfl, hs rfl, hs rfl, hs rfl, trivial⟩ ⟨ho' rfl (leo_row0), trivial⟩ rfl) ?_
  rintro i hI
  have hi : i ≤ n := hI
  show AW Try.prog _ _ ⟨21, [(0, .d (.one (.row 1 n (fun i _ => .v (.int .i64 (c i)))))), (5, .d (.one (.row 1 n (fun i _ => .v (.int .i64 (c i)))))), (6, .d (.one (.v (.int .i64 (n : Int))))), (7, .d (.one (.v (.int .i64 ((i : Nat) : Int))))), (3, .own 3)], [(3, .row 68 4 i (qel 64 (rc c)))]⟩
  refine cSeq ?_
  refine cReg ?_
  refine mV hTT (.d (.one (.v (.bool (decide (((i : Nat) : Int) < (n : Int))))))) rfl ?_
  refine mNil ?_
  refine tN ?_
  refine cSeq ?_
  refine cCond rfl (fun hc1 => ?_) (fun hc1 => ?_)
  · skip
    refine cSkip ?_
    refine tN ?_
    refine cSeq ?_
    refine cBlock ?_
    refine cSeq ?_
    refine cReg ?_
    refine mV hTT _ rfl ?_
    refine mV hTT _ rfl ?_
    refine mNil ?_
    refine tN ?_
    have hin : i < n := by have h0 := of_decide_eq_true hc1; omega
    refine cReg ?_
    refine mV hTT _ rfl ?_
    refine mV hTT _ rfl ?_
    refine mV hTT _ rfl ?_
    refine mV hTT (.d (.one (.at 1 ((fun i _ => .v (.int .i64 (c i))) i)))) (ixR (el := (fun i _ => .v (.int .i64 (c i)))) (z := ((i : Nat) : Int)) (n := n) rfl rfl rfl rfl rfl rfl (by omega) (by omega)) ?_
    refine mV hTT (.d (.one (.v (.int .i64 (c i))))) rfl ?_
    refine mC0 (aROfI (n := c i) (hb i hin).1 (hb i hin).2) rfl rfl rfl ?_
    refine mB hTT (.d (.one (.row 4 1 (fun i' j' => ((qn 64 ((c i : Int) : Rat))[i' * 4 + j']?).getD (.v undef))))) rfl ?_
    refine mA hTT (id := 3) (n := i) (m := 1) (el := (qel 64 (rc c))) (el2 := (fun i' j' => ((qn 64 ((c i : Int) : Rat))[i' * 4 + j']?).getD (.v undef))) rfl rfl rfl (by show (i + 1) * 64 ≤ 140737488355328; omega) (by omega) rfl rfl rfl rfl rfl rfl rfl rfl rfl rfl ?_
    refine mV hTT _ rfl ?_
    refine mNil ?_
    refine bN ?_
    refine tN ?_
    refine cReg ?_
    refine mV hTT (.d (.one (.v (.int .i64 (IntKind.i64.wrap (((i : Nat) : Int) + 1)))))) rfl ?_
    refine mV hTT _ rfl ?_
    refine mNil ?_
    exact ⟨(i + 1), by omega, by omega, wk (sl := [(0, .d (.one (.row 1 n (fun i _ => .v (.int .i64 (c i)))))), (5, .d (.one (.row 1 n (fun i _ => .v (.int .i64 (c i)))))), (6, .d (.one (.v (.int .i64 (n : Int))))), (7, .d (.one (.v (.int .i64 (((i + 1) : Nat) : Int))))), (3, .own 3)]) (hp := [(3, .row 68 4 (i + 1) (qel 64 (rc c)))]) rfl ⟨hs rfl, hs rfl, hs rfl, hs' rfl (le_int (inc64 (by omega))), hs rfl, trivial⟩ ⟨ho' rfl (app_q rfl (Nat.le_refl _) (Nat.le_refl _) rfl (fun _ _ => rfl)), trivial⟩ rfl⟩
  · skip
    refine cExit ?_
    refine tE ?_
    refine tE ?_
    refine bE ?_
    refine tN ?_
    refine cSeq ?_
    have hie : n = i := by have h0 := of_decide_eq_false hc1; omega
    subst hie
    refine AW.wk (wkRow 3 rfl) ?_
    refine cReg ?_
    refine mV hTT _ rfl ?_
    refine mC0 (aQCut (K := 64) (n := n) (c := (rc c)) (by omega)) rfl rfl rfl ?_
    refine mV hTT _ rfl ?_
    refine mNil ?_
    refine tN ?_
    refine cRet ?_
    exact rQ rfl (AV.le.rfl)

set_option maxRecDepth 100000 in
set_option maxHeartbeats 4000000 in
theorem aQAt {a : Lf} {K M n k : Nat} {c : Nat → Rat} (ha : IsQP a K n c) (hM : max K 64 ≤ M := by decide) : ACall Try.prog 55 [.one a, .one (.v (.int .i64 (k : Int)))] (.d (.agg (qn M (c k)))) := by
  obtain ⟨ha, za⟩ := ha
  refine ACall.le (dl (DV.l ha) (dl DV.same dl0)) AV.le.rfl ?_
  refine acallN hTT 18 [.cell 4 68] Try.func55 rfl rfl rfl rfl rfl ?_
  refine cSeq ?_
  refine cReg ?_
  refine mN hTT (.box 68 ([.v (.slice none 0 0), .v (.bool false), .v (.slice none 0 0), .v (.bool false)])) rfl rfl rfl ?_
  refine mNil ?_
  refine tN ?_
  refine cSeq ?_
  refine cSeq ?_
  refine cReg ?_
  refine mV hTT _ rfl ?_
  refine mV hTT (.d (.one (.v (.bool false)))) (evb (decide_eq_false (by omega))) ?_
  refine mV hTT _ rfl ?_
  refine mV hTT _ rfl ?_
  refine mV hTT _ rfl ?_
  refine mV hTT (.d (.one (.v (.int .i64 (n : Int))))) rfl ?_
  refine mV hTT (.d (.one (.v (.bool (decide ((k : Int) ≥ (n : Int))))))) rfl ?_
  refine mV hTT _ rfl ?_
  refine mNil ?_
  refine tN ?_
  refine cCond rfl (fun hc1 => ?_) (fun hc1 => ?_)
  · skip
    refine cSeq ?_
    refine cReg ?_
    refine mC0 (aQZero) rfl rfl rfl ?_
    refine mS hTT 4 (.box 68 (qn 64 0)) rfl ?_
    refine mNil ?_
    refine tN ?_
    refine cRet ?_
    refine tR ?_
    exact rQ rfl (le_qn (by omega) (za k (by have h0 := of_decide_eq_true hc1; omega)).symm)
  · skip
    refine cSkip ?_
    refine tN ?_
    refine cSeq ?_
    have hkn : k < n := by have h0 := of_decide_eq_false hc1; omega
    refine cReg ?_
    refine mV hTT _ rfl ?_
    refine mV hTT _ rfl ?_
    refine mV hTT (.d (.one (.at 4 ((qel K c) k)))) (ixR (el := (qel K c)) (z := (k : Int)) (n := n) rfl rfl rfl rfl rfl rfl (by omega) (by omega)) ?_
    refine mV hTT (.d (.agg (qn K (c k)))) rfl ?_
    refine mS hTT 4 (.box 68 (qn K (c k))) rfl ?_
    refine mNil ?_
    refine tN ?_
    refine cRet ?_
    exact rQ rfl (le_qn (by omega) rfl)

set_option maxRecDepth 100000 in
set_option maxHeartbeats 4000000 in
theorem aQAdd {a b : Lf} {K L M n m : Nat} {c d : Nat → Rat} (ha : IsQP a K n c) (hb : IsQP b L m d) (hM : max (max K 64 + max L 64 + 1) 64 ≤ M := by decide) (hn : max n m ≤ 1000000 := by decide) (hMM : M ≤ 10000000 := by decide) : ACall Try.prog 10 [.one a, .one b] (.d (.one (qrow M (dg (faddQ c d) (max n m)) (faddQ c d)))) := by
  obtain ⟨ha, za⟩ := ha
  obtain ⟨hb, zb⟩ := hb
  refine ACall.le (dl (DV.l ha) (dl (DV.l hb) dl0)) AV.le.rfl ?_
  refine acallN hTT 28 [.tmp 4] Try.func10 rfl rfl rfl rfl rfl ?_
  refine cSeq ?_
  refine cReg ?_
  refine mV hTT _ rfl ?_
  refine mNil ?_
  refine tN ?_
  refine cSeq ?_
  refine cReg ?_
  refine mV hTT _ rfl ?_
  refine mNil ?_
  refine tN ?_
  refine cSeq ?_
  refine cSeq ?_
  refine AW.wk (wkNil 5 5 68 4 (fun _ _ => .v undef) rfl rfl) ?_
  refine cReg ?_
  refine mV hTT _ rfl ?_
  refine mNil ?_
  refine tN ?_
  refine cBlock ?_
  refine cLoop (ι := Nat) (fun (i : Nat) => ⟨28, [(0, .d (.one (.row 4 n (qel K c)))), (1, .d (.one (.row 4 m (qel L d)))), (6, .d (.one (.v (.int .i64 ((i : Nat) : Int))))), (5, .own 5)], [(5, .row 68 4 i (qel M (faddQ c d)))]⟩) (fun (i : Nat) => i ≤ (max n m)) (fun (i : Nat) => (max n m) - i) 0 (Nat.zero_le _) (wk (sl := [(0, .d (.one (.row 4 n (qel K c)))), (1, .d (.one (.row 4 m (qel L d)))), (6, .d (.one (.v (.int .i64 ((0 : Nat) : Int))))), (5, .own 5)]) (hp := [(5, .row 68 4 0 (qel M (faddQ c d)))]) rfl ⟨hs rfl, hs rfl, hs rfl, hs rfl, trivial⟩ ⟨ho' rfl (leo_row0), trivial⟩ rfl) ?_
  rintro i hI
  have hi : i ≤ (max n m) := hI
  show AW Try.prog _ _ ⟨28, [(0, .d (.one (.row 4 n (qel K c)))), (1, .d (.one (.row 4 m (qel L d)))), (6, .d (.one (.v (.int .i64 ((i : Nat) : Int))))), (5, .own 5)], [(5, .row 68 4 i (qel M (faddQ c d)))]⟩
  refine cSeq ?_
  refine cSeq ?_
  refine cReg ?_
  refine mV hTT _ rfl ?_
  refine mV hTT _ rfl ?_
  refine mV hTT (.d (.one (.v (.int .i64 (n : Int))))) rfl ?_
  refine mV hTT _ rfl ?_
  refine mV hTT (.d (.one (.v (.int .i64 (m : Int))))) rfl ?_
  refine mV hTT (.d (.one (.v (.int .i64 ((max n m : Nat) : Int))))) (evi (maxNN n m)) ?_
  refine mV hTT (.d (.one (.v (.bool (decide (((i : Nat) : Int) < ((max n m : Nat) : Int))))))) rfl ?_
  refine mNil ?_
  refine tN ?_
  refine cCond rfl (fun hc1 => ?_) (fun hc1 => ?_)
  · skip
    refine cSkip ?_
    refine tN ?_
    refine cSeq ?_
    refine cBlock ?_
    have hin : i < (max n m) := by have h0 := of_decide_eq_true hc1; omega
    refine cReg ?_
    refine mV hTT _ rfl ?_
    refine mV hTT _ rfl ?_
    refine mV hTT _ rfl ?_
    refine mC0 (aQAt (isqp (K := K) (c := c) za) (k := i) (M := (max K 64)) (by omega)) rfl rfl rfl ?_
    refine mV hTT _ rfl ?_
    refine mV hTT _ rfl ?_
    refine mC0 (aQAt (isqp (K := L) (c := d) zb) (k := i) (M := (max L 64)) (by omega)) rfl rfl rfl ?_
    refine mC0 (aRAddR (isq (max K 64) (c i)) (isq (max L 64) (d i)) (M := (max ((max K 64) + (max L 64) + 1) 64)) (by omega) (by omega)) rfl rfl rfl ?_
    refine mB hTT (.d (.one (.row 4 1 (fun i' j' => ((qn (max ((max K 64) + (max L 64) + 1) 64) ((c i) + (d i)))[i' * 4 + j']?).getD (.v undef))))) rfl ?_
    refine mA hTT (id := 5) (n := i) (m := 1) (el := (qel M (faddQ c d))) (el2 := (fun i' j' => ((qn (max ((max K 64) + (max L 64) + 1) 64) ((c i) + (d i)))[i' * 4 + j']?).getD (.v undef))) rfl rfl rfl (by show (i + 1) * 64 ≤ 140737488355328; omega) (by omega) rfl rfl rfl rfl rfl rfl rfl rfl rfl rfl ?_
    refine mV hTT _ rfl ?_
    refine mNil ?_
    refine bN ?_
    refine tN ?_
    refine cReg ?_
    refine mV hTT _ rfl ?_
    refine mV hTT (.d (.one (.v (.int .i64 (IntKind.i64.wrap (((i : Nat) : Int) + 1)))))) rfl ?_
    refine mV hTT _ rfl ?_
    refine mNil ?_
    exact ⟨(i + 1), by omega, by omega, wk (sl := [(0, .d (.one (.row 4 n (qel K c)))), (1, .d (.one (.row 4 m (qel L d)))), (6, .d (.one (.v (.int .i64 (((i + 1) : Nat) : Int))))), (5, .own 5)]) (hp := [(5, .row 68 4 (i + 1) (qel M (faddQ c d)))]) rfl ⟨hs rfl, hs rfl, hs' rfl (le_int (inc64 (by omega))), hs rfl, trivial⟩ ⟨ho' rfl (app_q rfl (Nat.le_refl _) (by omega) rfl (fun _ _ => rfl)), trivial⟩ rfl⟩
  · skip
    refine cExit ?_
    refine tE ?_
    refine tE ?_
    refine bE ?_
    refine tN ?_
    refine cSeq ?_
    have hie : (max n m) = i := by have h0 := of_decide_eq_false hc1; omega
    subst hie
    refine AW.wk (wkRow 5 rfl) ?_
    refine cReg ?_
    refine mV hTT _ rfl ?_
    refine mC0 (aQCut (K := M) (n := (max n m)) (c := (faddQ c d)) (by omega)) rfl rfl rfl ?_
    refine mV hTT _ rfl ?_
    refine mNil ?_
    refine tN ?_
    refine cRet ?_
    exact rQ rfl (AV.le.rfl)

set_option maxRecDepth 100000 in
set_option maxHeartbeats 4000000 in
theorem aQScale {a : Lf} {b : List Lf} {K L M n : Nat} {c : Nat → Rat} {q : Rat} (ha : IsQP a K n c) (hq : IsQ b L q) (hM : max (K + L + 1) 64 ≤ M := by decide) (hn : n ≤ 1000000 := by decide) (hMM : M ≤ 10000000 := by decide) : ACall Try.prog 58 [.one a, .agg b] (.d (.one (qrow M (dg (fsclQ c q) (n)) (fsclQ c q)))) := by
  obtain ⟨ha, za⟩ := ha
  refine ACall.le (dl (DV.l ha) (dl (DV.g hq) dl0)) AV.le.rfl ?_
  refine acallN hTT 24 [.tmp 4] Try.func58 rfl rfl rfl rfl rfl ?_
  refine cSeq ?_
  refine cReg ?_
  refine mN hTT (.box 68 (qn L q)) rfl rfl rfl ?_
  refine mV hTT _ rfl ?_
  refine mNil ?_
  refine tN ?_
  refine cSeq ?_
  refine cReg ?_
  refine mV hTT _ rfl ?_
  refine mNil ?_
  refine tN ?_
  refine cSeq ?_
  refine cSeq ?_
  refine AW.wk (wkNil 5 5 68 4 (fun _ _ => .v undef) rfl rfl) ?_
  refine cReg ?_
  refine mV hTT _ rfl ?_
  refine mV hTT (.d (.one (.v (.int .i64 (n : Int))))) rfl ?_
  refine mV hTT _ rfl ?_
  refine mNil ?_
  refine tN ?_
  refine cBlock ?_
  refine cLoop (ι := Nat) (fun (i : Nat) => ⟨24, [(0, .d (.one (.row 4 n (qel K c)))), (7, .d (.one (.row 4 n (qel K c)))), (8, .d (.one (.v (.int .i64 (n : Int))))), (3, .ptr 3 0), (9, .d (.one (.v (.int .i64 ((i : Nat) : Int))))), (5, .own 5)], [(3, .box 68 (qn L q)), (5, .row 68 4 i (qel M (fsclQ c q)))]⟩) (fun (i : Nat) => i ≤ n) (fun (i : Nat) => n - i) 0 (Nat.zero_le _) (wk (sl := [(0, .d (.one (.row 4 n (qel K c)))), (7, .d (.one (.row 4 n (qel K c)))), (8, .d (.one (.v (.int .i64 (n : Int))))), (3, .ptr 3 0), (9, .d (.one (.v (.int .i64 ((0 : Nat) : Int))))), (5, .own 5)]) (hp := [(3, .box 68 (qn L q)), (5, .row 68 4 0 (qel M (fsclQ c q)))]) rfl ⟨hs rfl, hs rfl, hs rfl, hs rfl, hs rfl, hs rfl, trivial⟩ ⟨ho rfl, ho' rfl (leo_row0), trivial⟩ rfl) ?_
  rintro i hI
  have hi : i ≤ n := hI
  show AW Try.prog _ _ ⟨24, [(0, .d (.one (.row 4 n (qel K c)))), (7, .d (.one (.row 4 n (qel K c)))), (8, .d (.one (.v (.int .i64 (n : Int))))), (3, .ptr 3 0), (9, .d (.one (.v (.int .i64 ((i : Nat) : Int))))), (5, .own 5)], [(3, .box 68 (qn L q)), (5, .row 68 4 i (qel M (fsclQ c q)))]⟩
  refine cSeq ?_
  refine cReg ?_
  refine mV hTT (.d (.one (.v (.bool (decide (((i : Nat) : Int) < (n : Int))))))) rfl ?_
  refine mNil ?_
  refine tN ?_
  refine cSeq ?_
  refine cCond rfl (fun hc1 => ?_) (fun hc1 => ?_)
  · skip
    refine cSkip ?_
    refine tN ?_
    refine cSeq ?_
    refine cBlock ?_
    refine cSeq ?_
    refine cReg ?_
    refine mV hTT _ rfl ?_
    refine mV hTT _ rfl ?_
    refine mNil ?_
    refine tN ?_
    have hin : i < n := by have h0 := of_decide_eq_true hc1; omega
    refine cDrawK hTT 8 (by kernel_rfl) (by kernel_rfl) (by kernel_rfl) ?_
    refine .cons (OpS.V _ rfl) ?_
    refine .cons (OpS.V _ rfl) ?_
    refine .cons (OpS.V _ rfl) ?_
    refine .cons (OpS.V (.d (.one (.at 4 ((qel K c) i)))) (ixR (el := (qel K c)) (z := ((i : Nat) : Int)) (n := n) rfl rfl rfl rfl rfl rfl (by omega) (by omega))) ?_
    refine .cons (OpS.V (.d (.agg (qn K (c i)))) rfl) ?_
    refine .cons (OpS.V (.d (.agg (qn L q))) rfl) ?_
    refine .cons (OpS.C0 (aRMulR (isq K (c i)) (isq L q) (M := (max (K + L + 1) 64)) (by omega) (by omega)) rfl rfl rfl) ?_
    refine .cons (OpS.B _ rfl) ?_
    refine .nil ?_
    refine mA hTT (id := 5) (n := i) (m := 1) (el := (qel M (fsclQ c q))) (el2 := (fun i' j' => ((qn (max (K + L + 1) 64) ((c i) * q))[i' * 4 + j']?).getD (.v undef))) rfl rfl rfl (by show (i + 1) * 64 ≤ 140737488355328; omega) (by omega) rfl rfl rfl rfl rfl rfl rfl rfl rfl rfl ?_
    refine mV hTT _ rfl ?_
    refine mNil ?_
    refine bN ?_
    refine tN ?_
    refine cReg ?_
    refine mV hTT (.d (.one (.v (.int .i64 (IntKind.i64.wrap (((i : Nat) : Int) + 1)))))) rfl ?_
    refine mV hTT _ rfl ?_
    refine mNil ?_
    exact ⟨(i + 1), by omega, by omega, wk (sl := [(0, .d (.one (.row 4 n (qel K c)))), (7, .d (.one (.row 4 n (qel K c)))), (8, .d (.one (.v (.int .i64 (n : Int))))), (3, .ptr 3 0), (9, .d (.one (.v (.int .i64 (((i + 1) : Nat) : Int))))), (5, .own 5)]) (hp := [(3, .box 68 (qn L q)), (5, .row 68 4 (i + 1) (qel M (fsclQ c q)))]) rfl ⟨hs rfl, hs rfl, hs rfl, hs rfl, hs' rfl (le_int (inc64 (by omega))), hs rfl, trivial⟩ ⟨ho rfl, ho' rfl (app_q rfl (Nat.le_refl _) (by omega) rfl (fun _ _ => rfl)), trivial⟩ rfl⟩
  · skip
    refine cExit ?_
    refine tE ?_
    refine tE ?_
    refine bE ?_
    refine tN ?_
    refine cSeq ?_
    have hie : n = i := by have h0 := of_decide_eq_false hc1; omega
    subst hie
    refine AW.wk (wkRow 5 rfl) ?_
    refine cReg ?_
    refine mV hTT _ rfl ?_
    refine mC0 (aQCut (K := M) (n := n) (c := (fsclQ c q)) (by omega)) rfl rfl rfl ?_
    refine mV hTT _ rfl ?_
    refine mNil ?_
    refine tN ?_
    refine cRet ?_
    exact rQ rfl (AV.le.rfl)

set_option maxRecDepth 100000 in
set_option maxHeartbeats 4000000 in
theorem aQSame {a b : Lf} {K L n : Nat} {c : Nat → Int} (ha : ∀ B w v, LfR B w a v → LfR B w (qrow K n (rc c)) v) (hb : ∀ B w v, LfR B w b v → LfR B w (prow L n c) v) (hn : n ≤ 1000000 := by decide) (hK : K ≤ 10000000 := by decide) (hL : L ≤ 1000000000 := by decide) : ACall Try.prog 53 [.one a, .one b] (.d (.one (.v (.bool true)))) := by
  refine ACall.le (dl (DV.l ha) (dl (DV.l hb) dl0)) AV.le.rfl ?_
  refine acallN hTT 38 [.tmp 4] Try.func53 rfl rfl rfl rfl rfl ?_
  refine cSeq ?_
  refine cReg ?_
  refine mV hTT _ rfl ?_
  refine mNil ?_
  refine tN ?_
  refine cSeq ?_
  refine cSeq ?_
  refine cReg ?_
  refine mV hTT _ rfl ?_
  refine mV hTT (.d (.one (.v (.int .i64 (n : Int))))) rfl ?_
  refine mV hTT _ rfl ?_
  refine mV hTT (.d (.one (.v (.int .i64 (n : Int))))) rfl ?_
  refine mV hTT (.d (.one (.v (.bool false)))) (evb (bne_self_eq_false _)) ?_
  refine mNil ?_
  refine tN ?_
  refine cF rfl ?_
  refine cSkip ?_
  refine tN ?_
  refine cSeq ?_
  refine cSeq ?_
  refine cReg ?_
  refine mV hTT _ rfl ?_
  refine mV hTT (.d (.one (.v (.int .i64 (n : Int))))) rfl ?_
  refine mV hTT _ rfl ?_
  refine mNil ?_
  refine tN ?_
  refine cBlock ?_
  refine cLoop (ι := Nat) (fun (i : Nat) => ⟨38, [(0, .d (.one (.row 4 n (qel K (rc c))))), (1, .d (.one (.row 2 n (zel L c)))), (12, .d (.one (.v (.int .i64 (n : Int))))), (13, .d (.one (.v (.int .i64 ((i : Nat) : Int)))))], []⟩) (fun (i : Nat) => i ≤ n) (fun (i : Nat) => n - i) 0 (Nat.zero_le _) (wk (sl := [(0, .d (.one (.row 4 n (qel K (rc c))))), (1, .d (.one (.row 2 n (zel L c)))), (12, .d (.one (.v (.int .i64 (n : Int))))), (13, .d (.one (.v (.int .i64 ((0 : Nat) : Int)))))]) (hp := []) rfl ⟨hs rfl, hs rfl, hs rfl, hs rfl, trivial⟩ trivial rfl) ?_
  rintro i hI
  have hi : i ≤ n := hI
  show AW Try.prog _ _ ⟨38, [(0, .d (.one (.row 4 n (qel K (rc c))))), (1, .d (.one (.row 2 n (zel L c)))), (12, .d (.one (.v (.int .i64 (n : Int))))), (13, .d (.one (.v (.int .i64 ((i : Nat) : Int)))))], []⟩
  refine cSeq ?_
  refine cReg ?_
  refine mV hTT (.d (.one (.v (.bool (decide (((i : Nat) : Int) < (n : Int))))))) rfl ?_
  refine mNil ?_
  refine tN ?_
  refine cSeq ?_
  refine cCond rfl (fun hc1 => ?_) (fun hc1 => ?_)
  · skip
    refine cSkip ?_
    refine tN ?_
    refine cSeq ?_
    refine cBlock ?_
    refine cSeq ?_
    refine cReg ?_
    refine mV hTT _ rfl ?_
    refine mV hTT _ rfl ?_
    refine mNil ?_
    refine tN ?_
    refine cSeq ?_
    have hin : i < n := by have h0 := of_decide_eq_true hc1; omega
    refine cDrawK hTT 21 (by kernel_rfl) (by kernel_rfl) (by kernel_rfl) ?_
    refine .cons (OpS.V _ rfl) ?_
    refine .cons (OpS.V _ rfl) ?_
    refine .cons (OpS.V (.d (.one (.at 4 ((qel K (rc c)) i)))) (ixR (el := (qel K (rc c))) (z := ((i : Nat) : Int)) (n := n) rfl rfl rfl rfl rfl rfl (by omega) (by omega))) ?_
    refine .cons (OpS.V _ rfl) ?_
    refine .cons (OpS.V (.d (.agg (rn K (Rat.num ((rc c) i))))) rfl) ?_
    refine .cons (OpS.V _ rfl) ?_
    refine .cons (OpS.V _ rfl) ?_
    refine .cons (OpS.V (.d (.one (.at 2 ((zel L c) i)))) (ixR (el := (zel L c)) (z := ((i : Nat) : Int)) (n := n) rfl rfl rfl rfl rfl rfl (by omega) (by omega))) ?_
    refine .cons (OpS.V (.d (.agg (zn L (c i)))) rfl) ?_
    refine .cons (OpS.C0 (aRSame (IsR.eq (isr K (Rat.num ((rc c) i))) (Rat.num_intCast _)) (isn L (c i)) (by omega) (by omega)) rfl rfl rfl) ?_
    refine .cons (OpS.V (.d (.one (.v (.bool false)))) rfl) ?_
    refine .cons (OpS.V _ rfl) ?_
    refine .cons (OpS.V _ rfl) ?_
    refine .cons (OpS.V _ rfl) ?_
    refine .cons (OpS.V (.d (.one (.at 4 ((qel K (rc c)) i)))) (ixR (el := (qel K (rc c))) (z := ((i : Nat) : Int)) (n := n) rfl rfl rfl rfl rfl rfl (by omega) (by omega))) ?_
    refine .cons (OpS.V _ rfl) ?_
    refine .cons (OpS.V (.d (.agg (rn K (Rat.den ((rc c) i) : Int)))) rfl) ?_
    refine .cons (OpS.C0 (aROf (n := 1) (by decide) (by decide)) rfl rfl rfl) ?_
    refine .cons (OpS.C0 (aRCmp (isr K (Rat.den ((rc c) i) : Int)) (isr 64 1) (by omega) (by decide)) rfl rfl rfl) ?_
    refine .cons (OpS.V (.d (.one (.v (.bool false)))) (evb (by show (cmpZ ((rc c i).den : Int) 1 != 0) = false; unfold rc; rw [Rat.den_intCast]; rfl))) ?_
    refine .cons (OpS.V _ rfl) ?_
    refine .nil ?_
    refine mNil ?_
    refine tN ?_
    refine cF rfl ?_
    refine cSkip ?_
    refine bN ?_
    refine tN ?_
    refine cReg ?_
    refine mV hTT (.d (.one (.v (.int .i64 (IntKind.i64.wrap (((i : Nat) : Int) + 1)))))) rfl ?_
    refine mV hTT _ rfl ?_
    refine mNil ?_
    exact ⟨(i + 1), by omega, by omega, wk (sl := [(0, .d (.one (.row 4 n (qel K (rc c))))), (1, .d (.one (.row 2 n (zel L c)))), (12, .d (.one (.v (.int .i64 (n : Int))))), (13, .d (.one (.v (.int .i64 (((i + 1) : Nat) : Int)))))]) (hp := []) rfl ⟨hs rfl, hs rfl, hs rfl, hs' rfl (le_int (inc64 (by omega))), trivial⟩ trivial rfl⟩
  · skip
    refine cExit ?_
    refine tE ?_
    refine tE ?_
    refine bE ?_
    refine tN ?_
    refine cSeq ?_
    refine cReg ?_
    refine mV hTT _ rfl ?_
    refine mNil ?_
    refine tN ?_
    refine cRet ?_
    exact rQ rfl (AV.le.rfl)

end Go.Proofs.Ytlkdlicbhhackaa

/-
  POLYNOMIALS, by the machine (3): the program's.
-/
set_option linter.unusedVariables false
set_option linter.unusedSimpArgs false
namespace Go.Proofs.Ytlkdlicbhhackaa
open Go.RowKit

def upd (c : Nat → Int) (i : Nat) : Nat → Int := fun p => if p < i then c p else 0
theorem upd_self {c : Nat → Int} {i : Nat} : c i = upd c (i + 1) i := (if_pos (Nat.lt_succ_self i)).symm
theorem upd_ne {c : Nat → Int} {i p : Nat} (h : p ≠ i) : upd c i p = upd c (i + 1) p := by
  unfold upd
  by_cases h1 : p < i
  · rw [if_pos h1, if_pos (by omega)]
  · rw [if_neg h1, if_neg (by omega)]
theorem fx_pos {n k : Nat} {f : Nat → Bool × List Nat} (h : k < n) : fx n f k = f k := if_pos h
theorem fx_neg {n k : Nat} {f : Nat → Bool × List Nat} (h : ¬ k < n) : fx n f k = (false, []) := if_neg h
theorem nil_at {K : Nat} : AV.le (.d (.agg [.v (.bool false), .v (.slice none 0 0)])) (.d (.agg [.v (.bool false), lr K []])) := le_agg fun B w cs h => match cs, h with | [_, _], ⟨h1, h2, h3⟩ => ⟨h1, nil_lr K (fun _ => none) B w _ h2, h3⟩
set_option maxRecDepth 100000 in
set_option maxHeartbeats 4000000 in
theorem aPAt {K n k : Nat} {f : Nat → Bool × List Nat} : ACall Try.prog 52 [.one (arow K n f), .one (.v (.int .i64 (k : Int)))] (.d (.agg [.v (.bool (fx n f k).1), lr K (fx n f k).2])) := by
  refine acallN hTT 14 [.cell 4 36] Try.func52 rfl rfl rfl rfl rfl ?_
  refine cSeq ?_
  refine cReg ?_
  refine mN hTT (.box 36 ([.v (.bool false), .v (.slice none 0 0)])) rfl rfl rfl ?_
  refine mNil ?_
  refine tN ?_
  refine cSeq ?_
  refine cSeq ?_
  refine cReg ?_
  refine mV hTT _ rfl ?_
  refine mV hTT _ rfl ?_
  refine mV hTT (.d (.one (.v (.int .i64 (n : Int))))) rfl ?_
  refine mV hTT (.d (.one (.v (.bool (decide ((k : Int) < (n : Int))))))) rfl ?_
  refine mNil ?_
  refine tN ?_
  refine cCond rfl (fun hc1 => ?_) (fun hc1 => ?_)
  · skip
    refine cSeq ?_
    have hkn : k < n := by have h0 := of_decide_eq_true hc1; omega
    refine cReg ?_
    refine mV hTT _ rfl ?_
    refine mV hTT _ rfl ?_
    refine mV hTT (.d (.one (.at 2 ((ael K f) k)))) (ixR (el := (ael K f)) (z := (k : Int)) (n := n) rfl rfl rfl rfl rfl rfl (by omega) (by omega)) ?_
    refine mV hTT (.d (.agg ([.v (.bool ((f k).1)), lr K ((f k).2)]))) rfl ?_
    refine mS hTT 4 (.box 36 ([.v (.bool ((f k).1)), lr K ((f k).2)])) rfl ?_
    refine mNil ?_
    refine tN ?_
    refine cRet ?_
    refine tR ?_
    exact rQ rfl (by rw [fx_pos (by have h0 := of_decide_eq_true hc1; omega)]; exact AV.le.rfl)
  · skip
    refine cSkip ?_
    refine tN ?_
    refine cSeq ?_
    refine cReg ?_
    refine mV hTT (.d (.agg ([.v (.bool false), .v (.slice none 0 0)]))) rfl ?_
    refine mS hTT 4 (.box 36 ([.v (.bool false), .v (.slice none 0 0)])) rfl ?_
    refine mNil ?_
    refine tN ?_
    refine cRet ?_
    exact rQ rfl (by rw [fx_neg (by have h0 := of_decide_eq_false hc1; omega)]; exact nil_at)

set_option maxRecDepth 100000 in
set_option maxHeartbeats 4000000 in
theorem aEach {f : FuncId} {nc : Nat} {caps : Nat → Lf} {n K : Nat} {c : Nat → Int} (hf : ∀ i, i < n → ACall Try.prog f (.one (.v (.int .i64 (i : Int))) :: capsD caps 0 nc) (.d (.agg (zn K (c i))))) (hn : n ≤ 1000000 := by decide) : ACall Try.prog 50 [.one (.v (.int .i64 (n : Int))), .one (.fn f nc caps)] (.d (.one (prow K (dg c n) c))) := by
  refine acallN hTT 23 [.tmp 4] Try.func50 rfl rfl rfl rfl rfl ?_
  refine cSeq ?_
  refine cReg ?_
  refine mV hTT _ rfl ?_
  refine mNil ?_
  refine tN ?_
  refine cSeq ?_
  refine cReg ?_
  refine mV hTT _ rfl ?_
  refine mN hTT (.row 36 2 n (fun _ j => .v ((([Value.bool false, Value.slice none 0 0] : List Value)[j]?).getD undef))) (mkO (zl := (n : Int)) (zc := (n : Int)) (bts := 32) rfl rfl rfl rfl rfl (by omega) (by omega) rfl rfl rfl (by omega) (by omega) rfl) rfl rfl ?_
  refine mV hTT _ rfl ?_
  refine mNil ?_
  refine tN ?_
  refine cSeq ?_
  refine cSeq ?_
  refine cReg ?_
  refine mV hTT _ rfl ?_
  refine mV hTT (.d (.one (.v (.int .i64 (n : Int))))) rfl ?_
  refine mV hTT _ rfl ?_
  refine mNil ?_
  refine tN ?_
  refine cBlock ?_
  refine cLoop (ι := Nat) (fun (i : Nat) => ⟨23, [(1, .d (.one (.fn f nc caps))), (10, .d (.one (.v (.int .i64 (n : Int))))), (11, .d (.one (.v (.int .i64 ((i : Nat) : Int))))), (5, .own 8)], [(8, .row 36 2 n (zel K (upd c i)))]⟩) (fun (i : Nat) => i ≤ n) (fun (i : Nat) => n - i) 0 (Nat.zero_le _) (wk (sl := [(1, .d (.one (.fn f nc caps))), (10, .d (.one (.v (.int .i64 (n : Int))))), (11, .d (.one (.v (.int .i64 ((0 : Nat) : Int))))), (5, .own 8)]) (hp := [(8, .row 36 2 n (zel K (upd c 0)))]) rfl ⟨hs rfl, hs rfl, hs rfl, hs rfl, trivial⟩ ⟨ho' rfl (leo_zero (fun i _ => if_neg (Nat.not_lt_zero _))), trivial⟩ rfl) ?_
  rintro i hI
  have hi : i ≤ n := hI
  show AW Try.prog _ _ ⟨23, [(1, .d (.one (.fn f nc caps))), (10, .d (.one (.v (.int .i64 (n : Int))))), (11, .d (.one (.v (.int .i64 ((i : Nat) : Int))))), (5, .own 8)], [(8, .row 36 2 n (zel K (upd c i)))]⟩
  refine cSeq ?_
  refine cReg ?_
  refine mV hTT (.d (.one (.v (.bool (decide (((i : Nat) : Int) < (n : Int))))))) rfl ?_
  refine mNil ?_
  refine tN ?_
  refine cSeq ?_
  refine cCond rfl (fun hc1 => ?_) (fun hc1 => ?_)
  · skip
    refine cSkip ?_
    refine tN ?_
    refine cSeq ?_
    refine cBlock ?_
    refine cSeq ?_
    refine cReg ?_
    refine mV hTT _ rfl ?_
    refine mV hTT _ rfl ?_
    refine mNil ?_
    refine tN ?_
    have hin : i < n := by have h0 := of_decide_eq_true hc1; omega
    refine cReg ?_
    refine mV hTT _ rfl ?_
    refine mV hTT _ rfl ?_
    refine mV hTT _ rfl ?_
    refine mV hTT _ rfl ?_
    refine mC (hf i hin) rfl rfl rfl ?_
    refine mV hTT (.eptr 8 2 i 0) (ixO (z := ((i : Nat) : Int)) (n := n) rfl rfl rfl rfl rfl rfl rfl (by omega) (by omega)) ?_
    refine mS hTT 8 (.row 36 2 n (fun p' q' => if p' = i then ((zn K (c i))[q']?).getD (.v undef) else (zel K (upd c i)) p' q')) rfl ?_
    refine mNil ?_
    refine bN ?_
    refine tN ?_
    refine cReg ?_
    refine mV hTT (.d (.one (.v (.int .i64 (IntKind.i64.wrap (((i : Nat) : Int) + 1)))))) rfl ?_
    refine mV hTT _ rfl ?_
    refine mNil ?_
    exact ⟨(i + 1), by omega, by omega, wk (sl := [(1, .d (.one (.fn f nc caps))), (10, .d (.one (.v (.int .i64 (n : Int))))), (11, .d (.one (.v (.int .i64 (((i + 1) : Nat) : Int))))), (5, .own 8)]) (hp := [(8, .row 36 2 n (zel K (upd c (i + 1))))]) rfl ⟨hs rfl, hs rfl, hs' rfl (le_int (inc64 (by omega))), hs rfl, trivial⟩ ⟨ho' rfl (st_z (Nat.le_refl _) (Nat.le_refl _) upd_self (fun p _ hp => upd_ne hp)), trivial⟩ rfl⟩
  · skip
    refine cExit ?_
    refine tE ?_
    refine tE ?_
    refine bE ?_
    refine tN ?_
    refine cSeq ?_
    have hie : n = i := by have h0 := of_decide_eq_false hc1; omega
    subst hie
    refine AW.wk (wkRow 8 rfl) ?_
    refine cView 5 (.d (.one (.row 2 n (zel K c)))) rfl (le_one (prow_le (Nat.le_refl _) (fun i hi => if_pos hi))) ?_
    refine cReg ?_
    refine mV hTT _ rfl ?_
    refine mC0 (aPCut (K := K) (n := n) (c := c) (by omega)) rfl rfl rfl ?_
    refine mV hTT _ rfl ?_
    refine mNil ?_
    refine tN ?_
    refine cRet ?_
    exact rQ rfl (AV.le.rfl)

set_option maxRecDepth 100000 in
set_option maxHeartbeats 4000000 in
theorem aPAdd1 {K L M n m k : Nat} {fa fb : Nat → Bool × List Nat} {c d : Nat → Int} (ea : ∀ i, i < n → fzv fa i = c i) (za : ∀ i, n ≤ i → c i = 0) (eb : ∀ i, i < m → fzv fb i = d i) (zb : ∀ i, m ≤ i → d i = 0) (hM : max K L + 1 ≤ M) (hMM : M ≤ 1000000000) : ACall Try.prog 51 [.one (.v (.int .i64 (k : Int))), .one (.at 1 (fun q => (([.row 2 n (ael K fa)] : List Lf)[0 + q]?).getD (.v undef))), .one (.at 1 (fun q => (([.row 2 m (ael L fb)] : List Lf)[0 + q]?).getD (.v undef)))] (.d (.agg (zn M (fadd c d k)))) := by
  refine acallN hTT 12 [.cell 4 36] Try.func51 rfl rfl rfl rfl rfl ?_
  refine cSeq ?_
  refine cReg ?_
  refine mN hTT (.box 36 ([.v (.bool false), .v (.slice none 0 0)])) rfl rfl rfl ?_
  refine mNil ?_
  refine tN ?_
  refine cSeq ?_
  refine cDrawK hTT 7 (by kernel_rfl) (by kernel_rfl) (by kernel_rfl) ?_
  refine .cons (OpS.V (.d (.one (.row 2 n (ael K fa)))) rfl) ?_
  refine .cons (OpS.V _ rfl) ?_
  refine .cons (OpS.C0 (aPAt (K := K) (n := n) (f := fa) (k := k)) rfl rfl rfl) ?_
  refine .cons (OpS.V (.d (.one (.row 2 m (ael L fb)))) rfl) ?_
  refine .cons (OpS.V _ rfl) ?_
  refine .cons (OpS.C0 (aPAt (K := L) (n := m) (f := fb) (k := k)) rfl rfl rfl) ?_
  refine .cons (OpS.C0 (aAdd ⟨_, _, fun _ _ _ h => h, fx_z ea za⟩ ⟨_, _, fun _ _ _ h => h, fx_z eb zb⟩ (M := (max K L + 1)) (by omega) (by omega) (by omega)) rfl rfl rfl) ?_
  refine .nil ?_
  refine mS hTT 4 (.box 36 (zn (max K L + 1) ((c k) + (d k)))) rfl ?_
  refine mNil ?_
  refine tN ?_
  refine cRet ?_
  exact rQ rfl (le_zn hM rfl)

set_option maxRecDepth 100000 in
set_option maxHeartbeats 4000000 in
theorem aPAdd {a b : Lf} {K L M n m : Nat} {c d : Nat → Int} (ha : IsP a K n c) (hb : IsP b L m d) (hM : max K L + 1 ≤ M := by decide) (hn : max n m ≤ 1000000 := by decide) (hMM : M ≤ 1000000000 := by decide) : ACall Try.prog 8 [.one a, .one b] (.d (.one (prow M (dg (fadd c d) (max n m)) (fadd c d)))) := by
  obtain ⟨⟨fa, ha, ea⟩, za⟩ := ha
  obtain ⟨⟨fb, hb, eb⟩, zb⟩ := hb
  refine ACall.le (dl (DV.l ha) (dl (DV.l hb) dl0)) AV.le.rfl ?_
  refine acallN hTT 12 [.tmp 4] Try.func8 rfl rfl rfl rfl rfl ?_
  refine cSeq ?_
  refine cReg ?_
  refine mN hTT (.box 23 ([.row 2 n (ael K fa)])) rfl rfl rfl ?_
  refine mN hTT (.box 23 ([.row 2 m (ael L fb)])) rfl rfl rfl ?_
  refine mV hTT _ rfl ?_
  refine mNil ?_
  refine tN ?_
  refine cSeq ?_
  refine AW.wk (wkBox 2 rfl) ?_
  refine AW.wk (wkBox 3 rfl) ?_
  refine cReg ?_
  refine mV hTT (.d (.one (.row 2 n (ael K fa)))) rfl ?_
  refine mV hTT (.d (.one (.v (.int .i64 (n : Int))))) rfl ?_
  refine mV hTT (.d (.one (.row 2 m (ael L fb)))) rfl ?_
  refine mV hTT (.d (.one (.v (.int .i64 (m : Int))))) rfl ?_
  refine mV hTT (.d (.one (.v (.int .i64 ((max n m : Nat) : Int))))) (evi (maxNN n m)) ?_
  refine mV hTT _ rfl ?_
  refine mC0 (aEach (n := (max n m)) (K := M) (c := (fadd c d)) (fun i hi => aPAdd1 ea za eb zb hM hMM) (by omega)) rfl rfl rfl ?_
  refine mV hTT _ rfl ?_
  refine mNil ?_
  refine tN ?_
  refine cRet ?_
  exact rQ rfl (AV.le.rfl)

set_option maxRecDepth 100000 in
set_option maxHeartbeats 4000000 in
theorem aPSub1 {K L M n m k : Nat} {fa fb : Nat → Bool × List Nat} {c d : Nat → Int} (ea : ∀ i, i < n → fzv fa i = c i) (za : ∀ i, n ≤ i → c i = 0) (eb : ∀ i, i < m → fzv fb i = d i) (zb : ∀ i, m ≤ i → d i = 0) (hM : max K L + 1 ≤ M) (hMM : M ≤ 1000000000) : ACall Try.prog 57 [.one (.v (.int .i64 (k : Int))), .one (.at 1 (fun q => (([.row 2 n (ael K fa)] : List Lf)[0 + q]?).getD (.v undef))), .one (.at 1 (fun q => (([.row 2 m (ael L fb)] : List Lf)[0 + q]?).getD (.v undef)))] (.d (.agg (zn M (fsub c d k)))) := by
  refine acallN hTT 12 [.cell 4 36] Try.func57 rfl rfl rfl rfl rfl ?_
  refine cSeq ?_
  refine cReg ?_
  refine mN hTT (.box 36 ([.v (.bool false), .v (.slice none 0 0)])) rfl rfl rfl ?_
  refine mNil ?_
  refine tN ?_
  refine cSeq ?_
  refine cDrawK hTT 7 (by kernel_rfl) (by kernel_rfl) (by kernel_rfl) ?_
  refine .cons (OpS.V (.d (.one (.row 2 n (ael K fa)))) rfl) ?_
  refine .cons (OpS.V _ rfl) ?_
  refine .cons (OpS.C0 (aPAt (K := K) (n := n) (f := fa) (k := k)) rfl rfl rfl) ?_
  refine .cons (OpS.V (.d (.one (.row 2 m (ael L fb)))) rfl) ?_
  refine .cons (OpS.V _ rfl) ?_
  refine .cons (OpS.C0 (aPAt (K := L) (n := m) (f := fb) (k := k)) rfl rfl rfl) ?_
  refine .cons (OpS.C0 (aSub ⟨_, _, fun _ _ _ h => h, fx_z ea za⟩ ⟨_, _, fun _ _ _ h => h, fx_z eb zb⟩ (M := (max K L + 1)) (by omega) (by omega) (by omega)) rfl rfl rfl) ?_
  refine .nil ?_
  refine mS hTT 4 (.box 36 (zn (max K L + 1) ((c k) - (d k)))) rfl ?_
  refine mNil ?_
  refine tN ?_
  refine cRet ?_
  exact rQ rfl (le_zn hM rfl)

set_option maxRecDepth 100000 in
set_option maxHeartbeats 4000000 in
theorem aPSub {a b : Lf} {K L M n m : Nat} {c d : Nat → Int} (ha : IsP a K n c) (hb : IsP b L m d) (hM : max K L + 1 ≤ M := by decide) (hn : max n m ≤ 1000000 := by decide) (hMM : M ≤ 1000000000 := by decide) : ACall Try.prog 12 [.one a, .one b] (.d (.one (prow M (dg (fsub c d) (max n m)) (fsub c d)))) := by
  obtain ⟨⟨fa, ha, ea⟩, za⟩ := ha
  obtain ⟨⟨fb, hb, eb⟩, zb⟩ := hb
  refine ACall.le (dl (DV.l ha) (dl (DV.l hb) dl0)) AV.le.rfl ?_
  refine acallN hTT 12 [.tmp 4] Try.func12 rfl rfl rfl rfl rfl ?_
  refine cSeq ?_
  refine cReg ?_
  refine mN hTT (.box 23 ([.row 2 n (ael K fa)])) rfl rfl rfl ?_
  refine mN hTT (.box 23 ([.row 2 m (ael L fb)])) rfl rfl rfl ?_
  refine mV hTT _ rfl ?_
  refine mNil ?_
  refine tN ?_
  refine cSeq ?_
  refine AW.wk (wkBox 2 rfl) ?_
  refine AW.wk (wkBox 3 rfl) ?_
  refine cReg ?_
  refine mV hTT (.d (.one (.row 2 n (ael K fa)))) rfl ?_
  refine mV hTT (.d (.one (.v (.int .i64 (n : Int))))) rfl ?_
  refine mV hTT (.d (.one (.row 2 m (ael L fb)))) rfl ?_
  refine mV hTT (.d (.one (.v (.int .i64 (m : Int))))) rfl ?_
  refine mV hTT (.d (.one (.v (.int .i64 ((max n m : Nat) : Int))))) (evi (maxNN n m)) ?_
  refine mV hTT _ rfl ?_
  refine mC0 (aEach (n := (max n m)) (K := M) (c := (fsub c d)) (fun i hi => aPSub1 ea za eb zb hM hMM) (by omega)) rfl rfl rfl ?_
  refine mV hTT _ rfl ?_
  refine mNil ?_
  refine tN ?_
  refine cRet ?_
  exact rQ rfl (AV.le.rfl)

set_option maxRecDepth 100000 in
set_option maxHeartbeats 4000000 in
theorem aPNeg1 {K n k : Nat} {fa : Nat → Bool × List Nat} {c : Nat → Int} (ea : ∀ i, i < n → fzv fa i = c i) (hk : k < n) (hK : K ≤ 1000000000) : ACall Try.prog 60 [.one (.v (.int .i64 (k : Int))), .one (.at 1 (fun q => (([.row 2 n (ael K fa)] : List Lf)[0 + q]?).getD (.v undef)))] (.d (.agg (zn K (fneg c k)))) := by
  refine acallN hTT 9 [.cell 3 36] Try.func60 rfl rfl rfl rfl rfl ?_
  refine cSeq ?_
  refine cReg ?_
  refine mN hTT (.box 36 ([.v (.bool false), .v (.slice none 0 0)])) rfl rfl rfl ?_
  refine mNil ?_
  refine tN ?_
  refine cSeq ?_
  refine cReg ?_
  refine mV hTT (.d (.one (.row 2 n (ael K fa)))) rfl ?_
  refine mV hTT _ rfl ?_
  refine mV hTT (.d (.one (.at 2 ((ael K fa) k)))) (ixR (el := (ael K fa)) (z := (k : Int)) (n := n) rfl rfl rfl rfl rfl rfl (by omega) (by omega)) ?_
  refine mV hTT (.d (.agg ([.v (.bool ((fa k).1)), lr K ((fa k).2)]))) rfl ?_
  refine mC0 (aNeg ⟨_, _, fun _ _ _ h => h, ea k (by omega)⟩ (by omega)) rfl rfl rfl ?_
  refine mS hTT 3 (.box 36 (zn K (-(c k)))) rfl ?_
  refine mNil ?_
  refine tN ?_
  refine cRet ?_
  exact rQ rfl (le_zn (Nat.le_refl _) rfl)

set_option maxRecDepth 100000 in
set_option maxHeartbeats 4000000 in
theorem aPNeg {a : Lf} {K n : Nat} {c : Nat → Int} (ha : IsP a K n c) (hn : n ≤ 1000000 := by decide) (hK : K ≤ 1000000000 := by decide) : ACall Try.prog 14 [.one a] (.d (.one (prow K (dg (fneg c) (n)) (fneg c)))) := by
  obtain ⟨⟨fa, ha, ea⟩, za⟩ := ha
  refine ACall.le (dl (DV.l ha) dl0) AV.le.rfl ?_
  refine acallN hTT 7 [.tmp 2] Try.func14 rfl rfl rfl rfl rfl ?_
  refine cSeq ?_
  refine cReg ?_
  refine mN hTT (.box 23 ([.row 2 n (ael K fa)])) rfl rfl rfl ?_
  refine mV hTT _ rfl ?_
  refine mNil ?_
  refine tN ?_
  refine cSeq ?_
  refine AW.wk (wkBox 1 rfl) ?_
  refine cReg ?_
  refine mV hTT (.d (.one (.row 2 n (ael K fa)))) rfl ?_
  refine mV hTT (.d (.one (.v (.int .i64 (n : Int))))) rfl ?_
  refine mV hTT _ rfl ?_
  refine mC0 (aEach (n := n) (K := K) (c := (fneg c)) (fun i hi => aPNeg1 ea hi hK) (by omega)) rfl rfl rfl ?_
  refine mV hTT _ rfl ?_
  refine mNil ?_
  refine tN ?_
  refine cRet ?_
  exact rQ rfl (AV.le.rfl)

set_option maxRecDepth 100000 in
set_option maxHeartbeats 4000000 in
theorem aPDer1 {K n k : Nat} {fa : Nat → Bool × List Nat} {c : Nat → Int} (ea : ∀ i, i < n → fzv fa i = c i) {M : Nat} (hk : k + 1 < n) (hn : n ≤ 1000000) (hM : K + 2 ≤ M) (hMM : M ≤ 1000000000) : ACall Try.prog 64 [.one (.v (.int .i64 (k : Int))), .one (.at 1 (fun q => (([.row 2 n (ael K fa)] : List Lf)[0 + q]?).getD (.v undef)))] (.d (.agg (zn M (fder c k)))) := by
  refine acallN hTT 13 [.cell 3 36] Try.func64 rfl rfl rfl rfl rfl ?_
  refine cSeq ?_
  refine cReg ?_
  refine mN hTT (.box 36 ([.v (.bool false), .v (.slice none 0 0)])) rfl rfl rfl ?_
  refine mNil ?_
  refine tN ?_
  refine cSeq ?_
  refine cDrawK hTT 9 (by kernel_rfl) (by kernel_rfl) (by kernel_rfl) ?_
  refine .cons (OpS.V (.d (.one (.row 2 n (ael K fa)))) rfl) ?_
  refine .cons (OpS.V _ rfl) ?_
  refine .cons (OpS.V (.d (.one (.v (.int .i64 ((k + 1 : Nat) : Int))))) (evi (inc64 (by omega)))) ?_
  refine .cons (OpS.V (.d (.one (.at 2 ((ael K fa) (k + 1))))) (ixR (el := (ael K fa)) (z := ((k + 1 : Nat) : Int)) (n := n) rfl rfl rfl rfl rfl rfl (by omega) (by omega))) ?_
  refine .cons (OpS.V (.d (.agg ([.v (.bool ((fa (k + 1)).1)), lr K ((fa (k + 1)).2)]))) rfl) ?_
  refine .cons (OpS.V _ rfl) ?_
  refine .cons (OpS.V (.d (.one (.v (.int .i64 ((k + 1 : Nat) : Int))))) (evi (inc64 (by omega)))) ?_
  refine .cons (OpS.C0 (aOf (n := ((k + 1 : Nat) : Int)) (by omega) (by omega)) rfl rfl rfl) ?_
  refine .cons (OpS.C0 (aMul ⟨_, _, fun _ _ _ h => h, ea (k + 1) (by omega)⟩ (isz 2 ((k + 1 : Nat) : Int)) (M := (K + 2)) (by omega) (by omega) (by decide)) rfl rfl rfl) ?_
  refine .nil ?_
  refine mS hTT 3 (.box 36 (zn (K + 2) ((c (k + 1)) * ((k + 1 : Nat) : Int)))) rfl ?_
  refine mNil ?_
  refine tN ?_
  refine cRet ?_
  exact rQ rfl (le_zn hM rfl)

set_option maxRecDepth 100000 in
set_option maxHeartbeats 4000000 in
theorem aPDer {a : Lf} {K M n : Nat} {c : Nat → Int} (ha : IsP a K n c) (hM : K + 2 ≤ M := by decide) (hn : n ≤ 1000000 := by decide) (hMM : M ≤ 1000000000 := by decide) : ACall Try.prog 19 [.one a] (.d (.one (prow M (dg (fder c) (n - 1)) (fder c)))) := by
  obtain ⟨⟨fa, ha, ea⟩, za⟩ := ha
  refine ACall.le (dl (DV.l ha) dl0) AV.le.rfl ?_
  refine acallN hTT 9 [.tmp 2] Try.func19 rfl rfl rfl rfl rfl ?_
  refine cSeq ?_
  refine cReg ?_
  refine mN hTT (.box 23 ([.row 2 n (ael K fa)])) rfl rfl rfl ?_
  refine mV hTT _ rfl ?_
  refine mNil ?_
  refine tN ?_
  refine cSeq ?_
  refine AW.wk (wkBox 1 rfl) ?_
  refine cReg ?_
  refine mV hTT (.d (.one (.row 2 n (ael K fa)))) rfl ?_
  refine mV hTT (.d (.one (.v (.int .i64 (n : Int))))) rfl ?_
  refine mV hTT (.d (.one (.v (.int .i64 ((n : Int) - 1))))) (evi (wr64 (by omega) (by omega))) ?_
  refine mV hTT (.d (.one (.v (.int .i64 ((n - 1 : Nat) : Int))))) (evi (by rw [if_pos rfl]; split <;> omega)) ?_
  refine mV hTT _ rfl ?_
  refine mC0 (aEach (n := (n - 1)) (K := M) (c := (fder c)) (fun i hi => aPDer1 ea (by omega) hn hM hMM) (by omega)) rfl rfl rfl ?_
  refine mV hTT _ rfl ?_
  refine mNil ?_
  refine tN ?_
  refine cRet ?_
  exact rQ rfl (AV.le.rfl)

set_option maxRecDepth 100000 in
set_option maxHeartbeats 4000000 in
theorem aPNorm {a : Lf} {K n : Nat} {c : Nat → Int} (ha : IsP a K n c) (hn : n ≤ 1000000 := by decide) (hK : K ≤ 1000000000 := by decide) : ACall Try.prog 17 [.one a] (.d (.one (prow K (dg c (n)) c))) := by
  obtain ⟨⟨fa, ha, ea⟩, za⟩ := ha
  refine ACall.le (dl (DV.l ha) dl0) AV.le.rfl ?_
  refine acallN hTT 24 [.tmp 2] Try.func17 rfl rfl rfl rfl rfl ?_
  refine cSeq ?_
  refine cReg ?_
  refine mV hTT _ rfl ?_
  refine mNil ?_
  refine tN ?_
  refine cSeq ?_
  refine cReg ?_
  refine mV hTT _ rfl ?_
  refine mV hTT (.d (.one (.v (.int .i64 (n : Int))))) rfl ?_
  refine mN hTT (.row 36 2 n (fun _ j => .v ((([Value.bool false, Value.slice none 0 0] : List Value)[j]?).getD undef))) (mkO (zl := (n : Int)) (zc := (n : Int)) (bts := 32) rfl rfl rfl rfl rfl (by omega) (by omega) rfl rfl rfl (by omega) (by omega) rfl) rfl rfl ?_
  refine mV hTT _ rfl ?_
  refine mNil ?_
  refine tN ?_
  refine cSeq ?_
  refine cSeq ?_
  refine cReg ?_
  refine mV hTT _ rfl ?_
  refine mV hTT (.d (.one (.v (.int .i64 (n : Int))))) rfl ?_
  refine mV hTT _ rfl ?_
  refine mNil ?_
  refine tN ?_
  refine cBlock ?_
  refine cLoop (ι := Nat) (fun (i : Nat) => ⟨24, [(9, .d (.one (.row 2 n (ael K fa)))), (10, .d (.one (.v (.int .i64 (n : Int))))), (11, .d (.one (.v (.int .i64 ((i : Nat) : Int))))), (3, .own 8)], [(8, .row 36 2 n (zel K (upd c i)))]⟩) (fun (i : Nat) => i ≤ n) (fun (i : Nat) => n - i) 0 (Nat.zero_le _) (wk (sl := [(9, .d (.one (.row 2 n (ael K fa)))), (10, .d (.one (.v (.int .i64 (n : Int))))), (11, .d (.one (.v (.int .i64 ((0 : Nat) : Int))))), (3, .own 8)]) (hp := [(8, .row 36 2 n (zel K (upd c 0)))]) rfl ⟨hs rfl, hs rfl, hs rfl, hs rfl, trivial⟩ ⟨ho' rfl (leo_zero (fun i _ => if_neg (Nat.not_lt_zero _))), trivial⟩ rfl) ?_
  rintro i hI
  have hi : i ≤ n := hI
  show AW Try.prog _ _ ⟨24, [(9, .d (.one (.row 2 n (ael K fa)))), (10, .d (.one (.v (.int .i64 (n : Int))))), (11, .d (.one (.v (.int .i64 ((i : Nat) : Int))))), (3, .own 8)], [(8, .row 36 2 n (zel K (upd c i)))]⟩
  refine cSeq ?_
  refine cReg ?_
  refine mV hTT (.d (.one (.v (.bool (decide (((i : Nat) : Int) < (n : Int))))))) rfl ?_
  refine mNil ?_
  refine tN ?_
  refine cSeq ?_
  refine cCond rfl (fun hc1 => ?_) (fun hc1 => ?_)
  · skip
    refine cSkip ?_
    refine tN ?_
    refine cSeq ?_
    refine cBlock ?_
    refine cSeq ?_
    have hin : i < n := by have h0 := of_decide_eq_true hc1; omega
    refine cReg ?_
    refine mV hTT _ rfl ?_
    refine mV hTT (.d (.one (.at 2 ((ael K fa) i)))) (ixR (el := (ael K fa)) (z := ((i : Nat) : Int)) (n := n) rfl rfl rfl rfl rfl rfl (by omega) (by omega)) ?_
    refine mV hTT (.d (.agg ([.v (.bool ((fa i).1)), lr K ((fa i).2)]))) rfl ?_
    refine mN hTT (.box 36 ([.v (.bool false), .v (.slice none 0 0)])) rfl rfl rfl ?_
    refine mV hTT _ rfl ?_
    refine mS hTT 5 (.box 36 ([.v (.bool ((fa i).1)), lr K ((fa i).2)])) rfl ?_
    refine mNil ?_
    refine tN ?_
    refine cReg ?_
    refine mV hTT _ rfl ?_
    refine mV hTT _ rfl ?_
    refine mV hTT (.d (.agg ([.v (.bool ((fa i).1)), lr K ((fa i).2)]))) rfl ?_
    refine mC0 (aNorm ⟨_, _, fun _ _ _ h => h, ea i (by omega)⟩ (by omega)) rfl rfl rfl ?_
    refine mV hTT (.eptr 8 2 i 0) (ixO (z := ((i : Nat) : Int)) (n := n) rfl rfl rfl rfl rfl rfl rfl (by omega) (by omega)) ?_
    refine mS hTT 8 (.row 36 2 n (fun p' q' => if p' = i then ((zn K (c i))[q']?).getD (.v undef) else (zel K (upd c i)) p' q')) rfl ?_
    refine mNil ?_
    refine bN ?_
    refine tN ?_
    refine cReg ?_
    refine mV hTT (.d (.one (.v (.int .i64 (IntKind.i64.wrap (((i : Nat) : Int) + 1)))))) rfl ?_
    refine mV hTT _ rfl ?_
    refine mNil ?_
    exact ⟨(i + 1), by omega, by omega, wk (sl := [(9, .d (.one (.row 2 n (ael K fa)))), (10, .d (.one (.v (.int .i64 (n : Int))))), (11, .d (.one (.v (.int .i64 (((i + 1) : Nat) : Int))))), (3, .own 8)]) (hp := [(8, .row 36 2 n (zel K (upd c (i + 1))))]) rfl ⟨hs rfl, hs rfl, hs' rfl (le_int (inc64 (by omega))), hs rfl, trivial⟩ ⟨ho' rfl (st_z (Nat.le_refl _) (Nat.le_refl _) upd_self (fun p _ hp => upd_ne hp)), trivial⟩ rfl⟩
  · skip
    refine cExit ?_
    refine tE ?_
    refine tE ?_
    refine bE ?_
    refine tN ?_
    refine cSeq ?_
    have hie : n = i := by have h0 := of_decide_eq_false hc1; omega
    subst hie
    refine AW.wk (wkRow 8 rfl) ?_
    refine cView 3 (.d (.one (.row 2 n (zel K c)))) rfl (le_one (prow_le (Nat.le_refl _) (fun i hi => if_pos hi))) ?_
    refine cReg ?_
    refine mV hTT _ rfl ?_
    refine mC0 (aPCut (K := K) (n := n) (c := c) (by omega)) rfl rfl rfl ?_
    refine mV hTT _ rfl ?_
    refine mNil ?_
    refine tN ?_
    refine cRet ?_
    exact rQ rfl (AV.le.rfl)

set_option maxRecDepth 100000 in
set_option maxHeartbeats 4000000 in
theorem aPOf {a : Lf} {n : Nat} {c : Nat → Int} (ha : IsI a n c) (hb : ∀ i, i < n → -9223372036854775808 ≤ c i ∧ c i ≤ 9223372036854775807) (hn : n ≤ 1000000 := by decide) : ACall Try.prog 67 [.one a] (.d (.one (prow 2 (dg c (n)) c))) := by
  obtain ⟨ha, za⟩ := ha
  refine ACall.le (dl (DV.l ha) dl0) AV.le.rfl ?_
  refine acallN hTT 24 [.tmp 2] Try.func67 rfl rfl rfl rfl rfl ?_
  refine cSeq ?_
  refine cReg ?_
  refine mV hTT _ rfl ?_
  refine mNil ?_
  refine tN ?_
  refine cSeq ?_
  refine cReg ?_
  refine mV hTT _ rfl ?_
  refine mV hTT (.d (.one (.v (.int .i64 (n : Int))))) rfl ?_
  refine mN hTT (.row 36 2 n (fun _ j => .v ((([Value.bool false, Value.slice none 0 0] : List Value)[j]?).getD undef))) (mkO (zl := (n : Int)) (zc := (n : Int)) (bts := 32) rfl rfl rfl rfl rfl (by omega) (by omega) rfl rfl rfl (by omega) (by omega) rfl) rfl rfl ?_
  refine mV hTT _ rfl ?_
  refine mNil ?_
  refine tN ?_
  refine cSeq ?_
  refine cSeq ?_
  refine cReg ?_
  refine mV hTT _ rfl ?_
  refine mV hTT (.d (.one (.v (.int .i64 (n : Int))))) rfl ?_
  refine mV hTT _ rfl ?_
  refine mNil ?_
  refine tN ?_
  refine cBlock ?_
  refine cLoop (ι := Nat) (fun (i : Nat) => ⟨24, [(9, .d (.one (.row 1 n (fun i _ => .v (.int .i64 (c i)))))), (10, .d (.one (.v (.int .i64 (n : Int))))), (11, .d (.one (.v (.int .i64 ((i : Nat) : Int))))), (3, .own 8)], [(8, .row 36 2 n (zel 2 (upd c i)))]⟩) (fun (i : Nat) => i ≤ n) (fun (i : Nat) => n - i) 0 (Nat.zero_le _) (wk (sl := [(9, .d (.one (.row 1 n (fun i _ => .v (.int .i64 (c i)))))), (10, .d (.one (.v (.int .i64 (n : Int))))), (11, .d (.one (.v (.int .i64 ((0 : Nat) : Int))))), (3, .own 8)]) (hp := [(8, .row 36 2 n (zel 2 (upd c 0)))]) rfl ⟨hs rfl, hs rfl, hs rfl, hs rfl, trivial⟩ ⟨ho' rfl (leo_zero (fun i _ => if_neg (Nat.not_lt_zero _))), trivial⟩ rfl) ?_
  rintro i hI
  have hi : i ≤ n := hI
  show AW Try.prog _ _ ⟨24, [(9, .d (.one (.row 1 n (fun i _ => .v (.int .i64 (c i)))))), (10, .d (.one (.v (.int .i64 (n : Int))))), (11, .d (.one (.v (.int .i64 ((i : Nat) : Int))))), (3, .own 8)], [(8, .row 36 2 n (zel 2 (upd c i)))]⟩
  refine cSeq ?_
  refine cReg ?_
  refine mV hTT (.d (.one (.v (.bool (decide (((i : Nat) : Int) < (n : Int))))))) rfl ?_
  refine mNil ?_
  refine tN ?_
  refine cSeq ?_
  refine cCond rfl (fun hc1 => ?_) (fun hc1 => ?_)
  · skip
    refine cSkip ?_
    refine tN ?_
    refine cSeq ?_
    refine cBlock ?_
    refine cSeq ?_
    have hin : i < n := by have h0 := of_decide_eq_true hc1; omega
    refine cReg ?_
    refine mV hTT _ rfl ?_
    refine mV hTT (.d (.one (.at 1 ((fun i _ => .v (.int .i64 (c i))) i)))) (ixR (el := (fun i _ => .v (.int .i64 (c i)))) (z := ((i : Nat) : Int)) (n := n) rfl rfl rfl rfl rfl rfl (by omega) (by omega)) ?_
    refine mV hTT (.d (.one (.v (.int .i64 (c i))))) rfl ?_
    refine mV hTT _ rfl ?_
    refine mV hTT _ rfl ?_
    refine mNil ?_
    refine tN ?_
    refine cReg ?_
    refine mV hTT _ rfl ?_
    refine mV hTT _ rfl ?_
    refine mV hTT _ rfl ?_
    refine mC0 (aOf (n := c i) (hb i hin).1 (hb i hin).2) rfl rfl rfl ?_
    refine mV hTT (.eptr 8 2 i 0) (ixO (z := ((i : Nat) : Int)) (n := n) rfl rfl rfl rfl rfl rfl rfl (by omega) (by omega)) ?_
    refine mS hTT 8 (.row 36 2 n (fun p' q' => if p' = i then ((zn 2 (c i))[q']?).getD (.v undef) else (zel 2 (upd c i)) p' q')) rfl ?_
    refine mNil ?_
    refine bN ?_
    refine tN ?_
    refine cReg ?_
    refine mV hTT (.d (.one (.v (.int .i64 (IntKind.i64.wrap (((i : Nat) : Int) + 1)))))) rfl ?_
    refine mV hTT _ rfl ?_
    refine mNil ?_
    exact ⟨(i + 1), by omega, by omega, wk (sl := [(9, .d (.one (.row 1 n (fun i _ => .v (.int .i64 (c i)))))), (10, .d (.one (.v (.int .i64 (n : Int))))), (11, .d (.one (.v (.int .i64 (((i + 1) : Nat) : Int))))), (3, .own 8)]) (hp := [(8, .row 36 2 n (zel 2 (upd c (i + 1))))]) rfl ⟨hs rfl, hs rfl, hs' rfl (le_int (inc64 (by omega))), hs rfl, trivial⟩ ⟨ho' rfl (st_z (Nat.le_refl _) (Nat.le_refl _) upd_self (fun p _ hp => upd_ne hp)), trivial⟩ rfl⟩
  · skip
    refine cExit ?_
    refine tE ?_
    refine tE ?_
    refine bE ?_
    refine tN ?_
    refine cSeq ?_
    have hie : n = i := by have h0 := of_decide_eq_false hc1; omega
    subst hie
    refine AW.wk (wkRow 8 rfl) ?_
    refine cView 3 (.d (.one (.row 2 n (zel 2 c)))) rfl (le_one (prow_le (Nat.le_refl _) (fun i hi => if_pos hi))) ?_
    refine cReg ?_
    refine mV hTT _ rfl ?_
    refine mC0 (aPCut (K := 2) (n := n) (c := c) (by omega)) rfl rfl rfl ?_
    refine mV hTT _ rfl ?_
    refine mNil ?_
    refine tN ?_
    refine cRet ?_
    exact rQ rfl (AV.le.rfl)

end Go.Proofs.Ytlkdlicbhhackaa

/-
  POLYNOMIALS, by the machine (4): products, sums of many, Move.
-/
set_option linter.unusedVariables false
set_option linter.unusedSimpArgs false
namespace Go.Proofs.Ytlkdlicbhhackaa
open Go.RowKit

set_option maxRecDepth 100000 in
set_option maxHeartbeats 4000000 in
theorem aPMul {a b : Lf} {K L M n m D : Nat} {c d : Nat → Int} (ha : IsP a K n c) (hb : IsP b L m d) (hD : n ≤ D) (hm : m ≤ 1000) (hM : K + L + 1 + D * 1000 ≤ M := by decide) (hDD : D ≤ 1000 := by decide) (hMM : M ≤ 1000000000 := by decide) : ACall Try.prog 16 [.one a, .one b] (.d (.one (prow M (dg (conv c d) (n + m)) (conv c d)))) := by
  obtain ⟨⟨fa, ha, ea⟩, za⟩ := ha
  obtain ⟨⟨fb, hb, eb⟩, zb⟩ := hb
  refine ACall.le (dl (DV.l ha) (dl (DV.l hb) dl0)) AV.le.rfl ?_
  refine acallN hTT 62 [.tmp 4] Try.func16 rfl rfl rfl rfl rfl ?_
  refine cSeq ?_
  refine cReg ?_
  refine mV hTT _ rfl ?_
  refine mNil ?_
  refine tN ?_
  refine cSeq ?_
  refine cReg ?_
  refine mV hTT _ rfl ?_
  refine mC0 (aPNorm (⟨⟨fa, fun _ _ _ h => h, ea⟩, za⟩ : IsP (arow K n fa) K n c) (by omega) (by omega)) rfl rfl rfl ?_
  refine mV hTT _ rfl ?_
  refine mC0 (aPNorm (⟨⟨fb, fun _ _ _ h => h, eb⟩, zb⟩ : IsP (arow L m fb) L m d) (by omega) (by omega)) rfl rfl rfl ?_
  refine mV hTT _ rfl ?_
  refine mV hTT _ rfl ?_
  refine mNil ?_
  refine tN ?_
  refine cSeq ?_
  refine cSeq ?_
  have hla := dg_le c n
  have hlb := dg_le d m
  by_cases h0a : (dg c n) = 0
  · skip
    refine cReg ?_
    refine mV hTT _ rfl ?_
    refine mV hTT (.d (.one (.v (.int .i64 ((dg c n : Nat) : Int))))) rfl ?_
    refine mV hTT (.d (.one (.v (.bool true)))) (evb (by rw [h0a]; rfl)) ?_
    refine mV hTT _ rfl ?_
    refine mG rfl rfl ?_
    refine mG rfl rfl ?_
    refine mG rfl rfl ?_
    refine mV hTT _ rfl ?_
    refine mNil ?_
    refine tN ?_
    refine cT rfl ?_
    refine cSeq ?_
    refine cReg ?_
    refine mV hTT _ rfl ?_
    refine mNil ?_
    refine tN ?_
    refine cRet ?_
    refine tR ?_
    exact rQ rfl (nil_prow' (dg_zero (conv_l0 (dg_all za h0a)) _))
  · skip
    by_cases h0b : (dg d m) = 0
    · skip
      refine cReg ?_
      refine mV hTT _ rfl ?_
      refine mV hTT (.d (.one (.v (.int .i64 ((dg c n : Nat) : Int))))) rfl ?_
      refine mV hTT (.d (.one (.v (.bool false)))) (evb (beq_eq_false_iff_ne.2 fun e => h0a (by omega))) ?_
      refine mV hTT _ rfl ?_
      refine mV hTT _ rfl ?_
      refine mV hTT (.d (.one (.v (.int .i64 ((dg d m : Nat) : Int))))) rfl ?_
      refine mV hTT (.d (.one (.v (.bool true)))) (evb (by rw [h0b]; rfl)) ?_
      refine mV hTT _ rfl ?_
      refine mNil ?_
      refine tN ?_
      refine cT rfl ?_
      refine cSeq ?_
      refine cReg ?_
      refine mV hTT _ rfl ?_
      refine mNil ?_
      refine tN ?_
      refine cRet ?_
      refine tR ?_
      exact rQ rfl (nil_prow' (dg_zero (conv_r0 (dg_all zb h0b)) _))
    · skip
      refine cReg ?_
      refine mV hTT _ rfl ?_
      refine mV hTT (.d (.one (.v (.int .i64 ((dg c n : Nat) : Int))))) rfl ?_
      refine mV hTT (.d (.one (.v (.bool false)))) (evb (beq_eq_false_iff_ne.2 fun e => h0a (by omega))) ?_
      refine mV hTT _ rfl ?_
      refine mV hTT _ rfl ?_
      refine mV hTT (.d (.one (.v (.int .i64 ((dg d m : Nat) : Int))))) rfl ?_
      refine mV hTT (.d (.one (.v (.bool false)))) (evb (beq_eq_false_iff_ne.2 fun e => h0b (by omega))) ?_
      refine mV hTT _ rfl ?_
      refine mNil ?_
      refine tN ?_
      refine cF rfl ?_
      refine cSkip ?_
      refine tN ?_
      refine cSeq ?_
      refine cReg ?_
      refine mV hTT _ rfl ?_
      refine mV hTT (.d (.one (.v (.int .i64 ((dg c n : Nat) : Int))))) rfl ?_
      refine mV hTT _ rfl ?_
      refine mV hTT (.d (.one (.v (.int .i64 ((dg d m : Nat) : Int))))) rfl ?_
      refine mV hTT (.d (.one (.v (.int .i64 ((dg c n + dg d m : Nat) : Int))))) (evi ((wr64 (by omega) (by omega)).trans (by omega))) ?_
      refine mV hTT (.d (.one (.v (.int .i64 ((dg c n + dg d m - 1 : Nat) : Int))))) (evi ((wr64 (by omega) (by omega)).trans (by omega))) ?_
      refine mN hTT (.row 36 2 (dg c n + dg d m - 1) (fun _ j => .v ((([Value.bool false, Value.slice none 0 0] : List Value)[j]?).getD undef))) (mkO (zl := ((dg c n + dg d m - 1 : Nat) : Int)) (zc := ((dg c n + dg d m - 1 : Nat) : Int)) (bts := 32) rfl rfl rfl rfl rfl (by omega) (by omega) rfl rfl rfl (by omega) (by omega) rfl) rfl rfl ?_
      refine mV hTT _ rfl ?_
      refine mNil ?_
      refine tN ?_
      refine cSeq ?_
      refine cSeq ?_
      refine cReg ?_
      refine mV hTT _ rfl ?_
      refine mV hTT (.d (.one (.v (.int .i64 ((dg c n : Nat) : Int))))) rfl ?_
      refine mV hTT _ rfl ?_
      refine mNil ?_
      refine tN ?_
      refine cBlock ?_
      refine cLoop (ι := Nat) (fun (i : Nat) => ⟨62, [(1, .d (.one (.row 2 (dg d m) (zel L d)))), (5, .own 28), (29, .d (.one (.row 2 (dg c n) (zel K c)))), (30, .d (.one (.v (.int .i64 ((dg c n : Nat) : Int))))), (31, .d (.one (.v (.int .i64 ((i : Nat) : Int)))))], [(28, .row 36 2 (dg c n + dg d m - 1) (zel (K + L + 1 + i * 1000) (cv c d i)))]⟩) (fun (i : Nat) => i ≤ dg c n) (fun (i : Nat) => dg c n - i) 0 (Nat.zero_le _) (wk (sl := [(1, .d (.one (.row 2 (dg d m) (zel L d)))), (5, .own 28), (29, .d (.one (.row 2 (dg c n) (zel K c)))), (30, .d (.one (.v (.int .i64 ((dg c n : Nat) : Int))))), (31, .d (.one (.v (.int .i64 ((0 : Nat) : Int)))))]) (hp := [(28, .row 36 2 (dg c n + dg d m - 1) (zel (K + L + 1 + 0 * 1000) (cv c d 0)))]) rfl ⟨hs rfl, hs rfl, hs rfl, hs rfl, hs rfl, trivial⟩ ⟨ho' rfl (leo_zero (fun _ _ => rfl)), trivial⟩ rfl) ?_
      rintro i hI
      have hi : i ≤ dg c n := hI
      show AW Try.prog _ _ ⟨62, [(1, .d (.one (.row 2 (dg d m) (zel L d)))), (5, .own 28), (29, .d (.one (.row 2 (dg c n) (zel K c)))), (30, .d (.one (.v (.int .i64 ((dg c n : Nat) : Int))))), (31, .d (.one (.v (.int .i64 ((i : Nat) : Int)))))], [(28, .row 36 2 (dg c n + dg d m - 1) (zel (K + L + 1 + i * 1000) (cv c d i)))]⟩
      refine cSeq ?_
      refine cReg ?_
      refine mV hTT (.d (.one (.v (.bool (decide (((i : Nat) : Int) < ((dg c n : Nat) : Int))))))) rfl ?_
      refine mNil ?_
      refine tN ?_
      refine cSeq ?_
      refine cCond rfl (fun hc1 => ?_) (fun hc1 => ?_)
      · skip
        refine cSkip ?_
        refine tN ?_
        refine cSeq ?_
        refine cBlock ?_
        refine cSeq ?_
        have hia : i < dg c n := by have h0 := of_decide_eq_true hc1; omega
        refine cReg ?_
        refine mV hTT _ rfl ?_
        refine mV hTT (.d (.one (.at 2 ((zel K c) i)))) (ixR (el := (zel K c)) (z := ((i : Nat) : Int)) (n := (dg c n)) rfl rfl rfl rfl rfl rfl (by omega) (by omega)) ?_
        refine mV hTT (.d (.agg (zn K (c i)))) rfl ?_
        refine mN hTT (.box 36 ([.v (.bool false), .v (.slice none 0 0)])) rfl rfl rfl ?_
        refine mV hTT _ rfl ?_
        refine mS hTT 7 (.box 36 (zn K (c i))) rfl ?_
        refine mNil ?_
        refine tN ?_
        refine cSeq ?_
        refine cReg ?_
        refine mV hTT _ rfl ?_
        refine mV hTT (.d (.one (.v (.int .i64 ((dg d m : Nat) : Int))))) rfl ?_
        refine mV hTT _ rfl ?_
        refine mNil ?_
        refine tN ?_
        refine cBlock ?_
        refine cLoop (ι := Nat) (fun (k : Nat) => ⟨62, [(1, .d (.one (.row 2 (dg d m) (zel L d)))), (5, .own 28), (29, .d (.one (.row 2 (dg c n) (zel K c)))), (30, .d (.one (.v (.int .i64 ((dg c n : Nat) : Int))))), (31, .d (.one (.v (.int .i64 ((i : Nat) : Int))))), (6, .d (.one (.v (.int .i64 ((i : Nat) : Int))))), (7, .ptr 7 0), (36, .d (.one (.row 2 (dg d m) (zel L d)))), (37, .d (.one (.v (.int .i64 ((dg d m : Nat) : Int))))), (38, .d (.one (.v (.int .i64 ((k : Nat) : Int)))))], [(7, .box 36 (zn K (c i))), (28, .row 36 2 (dg c n + dg d m - 1) (zel (K + L + 1 + i * 1000 + k) (cvk c d i k)))]⟩) (fun (k : Nat) => k ≤ dg d m) (fun (k : Nat) => dg d m - k) 0 (Nat.zero_le _) (wk (sl := [(1, .d (.one (.row 2 (dg d m) (zel L d)))), (5, .own 28), (29, .d (.one (.row 2 (dg c n) (zel K c)))), (30, .d (.one (.v (.int .i64 ((dg c n : Nat) : Int))))), (31, .d (.one (.v (.int .i64 ((i : Nat) : Int))))), (6, .d (.one (.v (.int .i64 ((i : Nat) : Int))))), (7, .ptr 7 0), (36, .d (.one (.row 2 (dg d m) (zel L d)))), (37, .d (.one (.v (.int .i64 ((dg d m : Nat) : Int))))), (38, .d (.one (.v (.int .i64 ((0 : Nat) : Int)))))]) (hp := [(7, .box 36 (zn K (c i))), (28, .row 36 2 (dg c n + dg d m - 1) (zel (K + L + 1 + i * 1000 + 0) (cvk c d i 0)))]) rfl ⟨hs rfl, hs rfl, hs rfl, hs rfl, hs rfl, hs rfl, hs rfl, hs rfl, hs rfl, hs rfl, trivial⟩ ⟨ho rfl, ho' rfl (leo_prow (by omega) (fun j _ => cvk_zero.symm)), trivial⟩ rfl) ?_
        rintro k hI
        have hk : k ≤ dg d m := hI
        show AW Try.prog _ _ ⟨62, [(1, .d (.one (.row 2 (dg d m) (zel L d)))), (5, .own 28), (29, .d (.one (.row 2 (dg c n) (zel K c)))), (30, .d (.one (.v (.int .i64 ((dg c n : Nat) : Int))))), (31, .d (.one (.v (.int .i64 ((i : Nat) : Int))))), (6, .d (.one (.v (.int .i64 ((i : Nat) : Int))))), (7, .ptr 7 0), (36, .d (.one (.row 2 (dg d m) (zel L d)))), (37, .d (.one (.v (.int .i64 ((dg d m : Nat) : Int))))), (38, .d (.one (.v (.int .i64 ((k : Nat) : Int)))))], [(7, .box 36 (zn K (c i))), (28, .row 36 2 (dg c n + dg d m - 1) (zel (K + L + 1 + i * 1000 + k) (cvk c d i k)))]⟩
        refine cSeq ?_
        refine cReg ?_
        refine mV hTT (.d (.one (.v (.bool (decide (((k : Nat) : Int) < ((dg d m : Nat) : Int))))))) rfl ?_
        refine mNil ?_
        refine tN ?_
        refine cSeq ?_
        refine cCond rfl (fun hc2 => ?_) (fun hc2 => ?_)
        · skip
          refine cSkip ?_
          refine tN ?_
          refine cSeq ?_
          refine cBlock ?_
          refine cSeq ?_
          have hkb : k < dg d m := by have h0 := of_decide_eq_true hc2; omega
          refine cReg ?_
          refine mV hTT _ rfl ?_
          refine mV hTT (.d (.one (.at 2 ((zel L d) k)))) (ixR (el := (zel L d)) (z := ((k : Nat) : Int)) (n := (dg d m)) rfl rfl rfl rfl rfl rfl (by omega) (by omega)) ?_
          refine mV hTT (.d (.agg (zn L (d k)))) rfl ?_
          refine mN hTT (.box 36 ([.v (.bool false), .v (.slice none 0 0)])) rfl rfl rfl ?_
          refine mV hTT _ rfl ?_
          refine mS hTT 9 (.box 36 (zn L (d k))) rfl ?_
          refine mNil ?_
          refine tN ?_
          refine cDrawK hTT 15 (by kernel_rfl) (by kernel_rfl) (by kernel_rfl) ?_
          refine .cons (OpS.V _ rfl) ?_
          refine .cons (OpS.V _ rfl) ?_
          refine .cons (OpS.V _ rfl) ?_
          refine .cons (OpS.V (.d (.one (.v (.int .i64 ((i + k : Nat) : Int))))) (evi ((wr64 (by omega) (by omega)).trans (by omega)))) ?_
          refine .cons (OpS.V _ rfl) ?_
          refine .cons (OpS.V _ rfl) ?_
          refine .cons (OpS.V _ rfl) ?_
          refine .cons (OpS.V (.d (.one (.v (.int .i64 ((i + k : Nat) : Int))))) (evi ((wr64 (by omega) (by omega)).trans (by omega)))) ?_
          refine .cons (OpS.V (.eptr 28 2 (i + k) 0) (ixO (z := ((i + k : Nat) : Int)) (n := (dg c n + dg d m - 1)) rfl rfl rfl rfl rfl rfl rfl (by omega) (by omega))) ?_
          refine .cons (OpS.V (.d (.agg (zn (K + L + 1 + i * 1000 + k) (cvk c d i k (i + k))))) rfl) ?_
          refine .cons (OpS.V (.d (.agg (zn K (c i)))) rfl) ?_
          refine .cons (OpS.V (.d (.agg (zn L (d k)))) rfl) ?_
          refine .cons (OpS.C0 (aMul (isz K (c i)) (isz L (d k)) (M := (K + L)) (by omega) (by omega) (by omega)) rfl rfl rfl) ?_
          refine .cons (OpS.C0 (aAdd (isz (K + L + 1 + i * 1000 + k) (cvk c d i k (i + k))) (isz (K + L) ((c i) * (d k))) (M := (max (K + L + 1 + i * 1000 + k) (K + L) + 1)) (by omega) (by omega) (by omega)) rfl rfl rfl) ?_
          refine .cons (OpS.V (.eptr 28 2 (i + k) 0) (ixO (z := ((i + k : Nat) : Int)) (n := (dg c n + dg d m - 1)) rfl rfl rfl rfl rfl rfl rfl (by omega) (by omega))) ?_
          refine .nil ?_
          refine mS hTT 28 (.row 36 2 (dg c n + dg d m - 1) (fun p' q' => if p' = (i + k) then ((zn (max (K + L + 1 + i * 1000 + k) (K + L) + 1) ((cvk c d i k (i + k)) + ((c i) * (d k))))[q']?).getD (.v undef) else (zel (K + L + 1 + i * 1000 + k) (cvk c d i k)) p' q')) rfl ?_
          refine mNil ?_
          refine bN ?_
          refine tN ?_
          refine cReg ?_
          refine mV hTT (.d (.one (.v (.int .i64 (IntKind.i64.wrap (((k : Nat) : Int) + 1)))))) rfl ?_
          refine mV hTT _ rfl ?_
          refine mNil ?_
          exact ⟨(k + 1), by omega, by omega, wk (sl := [(1, .d (.one (.row 2 (dg d m) (zel L d)))), (5, .own 28), (29, .d (.one (.row 2 (dg c n) (zel K c)))), (30, .d (.one (.v (.int .i64 ((dg c n : Nat) : Int))))), (31, .d (.one (.v (.int .i64 ((i : Nat) : Int))))), (6, .d (.one (.v (.int .i64 ((i : Nat) : Int))))), (7, .ptr 7 0), (36, .d (.one (.row 2 (dg d m) (zel L d)))), (37, .d (.one (.v (.int .i64 ((dg d m : Nat) : Int))))), (38, .d (.one (.v (.int .i64 (((k + 1) : Nat) : Int)))))]) (hp := [(7, .box 36 (zn K (c i))), (28, .row 36 2 (dg c n + dg d m - 1) (zel (K + L + 1 + i * 1000 + (k + 1)) (cvk c d i (k + 1))))]) rfl ⟨hs rfl, hs rfl, hs rfl, hs rfl, hs rfl, hs rfl, hs rfl, hs rfl, hs rfl, hs' rfl (le_int (inc64 (by omega))), trivial⟩ ⟨ho rfl, ho' rfl (st_z (by omega) (by omega) cvk_step (fun p _ hp => cvk_other hp)), trivial⟩ rfl⟩
        · skip
          refine cExit ?_
          refine tE ?_
          refine tE ?_
          refine bE ?_
          refine bN ?_
          refine tN ?_
          have hke : dg d m = k := by have h0 := of_decide_eq_false hc2; omega
          subst hke
          refine cReg ?_
          refine mV hTT (.d (.one (.v (.int .i64 (IntKind.i64.wrap (((i : Nat) : Int) + 1)))))) rfl ?_
          refine mV hTT _ rfl ?_
          refine mNil ?_
          exact ⟨(i + 1), by omega, by omega, wk (sl := [(1, .d (.one (.row 2 (dg d m) (zel L d)))), (5, .own 28), (29, .d (.one (.row 2 (dg c n) (zel K c)))), (30, .d (.one (.v (.int .i64 ((dg c n : Nat) : Int))))), (31, .d (.one (.v (.int .i64 (((i + 1) : Nat) : Int)))))]) (hp := [(28, .row 36 2 (dg c n + dg d m - 1) (zel (K + L + 1 + (i + 1) * 1000) (cv c d (i + 1))))]) rfl ⟨hs rfl, hs rfl, hs rfl, hs rfl, hs' rfl (le_int (inc64 (by omega))), trivial⟩ ⟨ho' rfl (leo_prow (by omega) (fun j _ => cvk_end (dg_z zb))), trivial⟩ rfl⟩
      · skip
        refine cExit ?_
        refine tE ?_
        refine tE ?_
        refine bE ?_
        refine tN ?_
        refine cSeq ?_
        have hie : dg c n = i := by have h0 := of_decide_eq_false hc1; omega
        subst hie
        refine AW.wk (wkRow 28 rfl) ?_
        refine cView 5 (.d (.one (.row 2 (dg c n + dg d m - 1) (zel M (conv c d))))) rfl (le_one (prow_le (by omega) (fun j _ => cv_conv (dg_z za)))) ?_
        refine cReg ?_
        refine mV hTT _ rfl ?_
        refine mC0 (aPCut (K := M) (n := (dg c n + dg d m - 1)) (c := (conv c d)) (by omega)) rfl rfl rfl ?_
        refine mV hTT _ rfl ?_
        refine mNil ?_
        refine tN ?_
        refine cRet ?_
        exact rQ rfl (le_prow (Nat.le_refl _) (dg_eq (fun j hj => conv_beyond (dg_z za) (dg_z zb) (by omega)) (fun j hj => conv_beyond za zb (by omega))) (fun _ _ => rfl))

set_option maxRecDepth 100000 in
set_option maxHeartbeats 4000000 in
theorem aQMul {a b : Lf} {K L M n m D : Nat} {c d : Nat → Rat} (ha : IsQP a K n c) (hb : IsQP b L m d) (hD : n ≤ D) (hm : m ≤ 1000) (hM : (D + 1) * (K + L + 66) ≤ M := by decide) (hDD : D ≤ 1000 := by decide) (hMM : M ≤ 10000000 := by decide) : ACall Try.prog 15 [.one a, .one b] (.d (.one (qrow M (dg (conv c d) (n + m)) (conv c d)))) := by
  obtain ⟨ha, za⟩ := ha
  obtain ⟨hb, zb⟩ := hb
  refine ACall.le (dl (DV.l ha) (dl (DV.l hb) dl0)) AV.le.rfl ?_
  obtain ⟨R, hR0, hR1, hRM⟩ : ∃ R : Nat → Nat, 64 ≤ R 0 ∧ (∀ i, R i + (K + L + 66) ≤ R (i + 1)) ∧ ∀ i, i ≤ n → R i ≤ M := ⟨fun i => (i + 1) * (K + L + 66), by simp, fun i => by show (i + 1) * (K + L + 66) + (K + L + 66) ≤ (i + 1 + 1) * (K + L + 66); rw [Nat.succ_mul (i + 1)]; exact Nat.le_refl _, fun i hi => Nat.le_trans (Nat.mul_le_mul_right _ (by omega)) hM⟩
  refine acallN hTT 69 [.tmp 4] Try.func15 rfl rfl rfl rfl rfl ?_
  refine cSeq ?_
  refine cReg ?_
  refine mV hTT _ rfl ?_
  refine mNil ?_
  refine tN ?_
  refine cSeq ?_
  refine cSeq ?_
  by_cases h0a : n = 0
  · skip
    refine cReg ?_
    refine mV hTT _ rfl ?_
    refine mV hTT (.d (.one (.v (.int .i64 (n : Int))))) rfl ?_
    refine mV hTT (.d (.one (.v (.bool true)))) (evb (by rw [h0a]; rfl)) ?_
    refine mV hTT _ rfl ?_
    refine mG rfl rfl ?_
    refine mG rfl rfl ?_
    refine mG rfl rfl ?_
    refine mV hTT _ rfl ?_
    refine mNil ?_
    refine tN ?_
    refine cT rfl ?_
    refine cSeq ?_
    refine cReg ?_
    refine mV hTT _ rfl ?_
    refine mNil ?_
    refine tN ?_
    refine cRet ?_
    refine tR ?_
    exact rQ rfl (nil_qrow' (dg_zero (conv_l0Q (fun i => za i (by omega))) _))
  · skip
    by_cases h0b : m = 0
    · skip
      refine cReg ?_
      refine mV hTT _ rfl ?_
      refine mV hTT (.d (.one (.v (.int .i64 (n : Int))))) rfl ?_
      refine mV hTT (.d (.one (.v (.bool false)))) (evb (beq_eq_false_iff_ne.2 fun e => h0a (by omega))) ?_
      refine mV hTT _ rfl ?_
      refine mV hTT _ rfl ?_
      refine mV hTT (.d (.one (.v (.int .i64 (m : Int))))) rfl ?_
      refine mV hTT (.d (.one (.v (.bool true)))) (evb (by rw [h0b]; rfl)) ?_
      refine mV hTT _ rfl ?_
      refine mNil ?_
      refine tN ?_
      refine cT rfl ?_
      refine cSeq ?_
      refine cReg ?_
      refine mV hTT _ rfl ?_
      refine mNil ?_
      refine tN ?_
      refine cRet ?_
      refine tR ?_
      exact rQ rfl (nil_qrow' (dg_zero (conv_r0Q (fun i => zb i (by omega))) _))
    · skip
      refine cReg ?_
      refine mV hTT _ rfl ?_
      refine mV hTT (.d (.one (.v (.int .i64 (n : Int))))) rfl ?_
      refine mV hTT (.d (.one (.v (.bool false)))) (evb (beq_eq_false_iff_ne.2 fun e => h0a (by omega))) ?_
      refine mV hTT _ rfl ?_
      refine mV hTT _ rfl ?_
      refine mV hTT (.d (.one (.v (.int .i64 (m : Int))))) rfl ?_
      refine mV hTT (.d (.one (.v (.bool false)))) (evb (beq_eq_false_iff_ne.2 fun e => h0b (by omega))) ?_
      refine mV hTT _ rfl ?_
      refine mNil ?_
      refine tN ?_
      refine cF rfl ?_
      refine cSkip ?_
      refine tN ?_
      refine cSeq ?_
      refine cReg ?_
      refine mV hTT _ rfl ?_
      refine mV hTT (.d (.one (.v (.int .i64 (n : Int))))) rfl ?_
      refine mV hTT _ rfl ?_
      refine mV hTT (.d (.one (.v (.int .i64 (m : Int))))) rfl ?_
      refine mV hTT (.d (.one (.v (.int .i64 ((n + m : Nat) : Int))))) (evi ((wr64 (by omega) (by omega)).trans (by omega))) ?_
      refine mV hTT (.d (.one (.v (.int .i64 ((n + m - 1 : Nat) : Int))))) (evi ((wr64 (by omega) (by omega)).trans (by omega))) ?_
      refine mN hTT (.row 68 4 (n + m - 1) (fun _ j => .v ((([Value.slice none 0 0, Value.bool false, Value.slice none 0 0, Value.bool false] : List Value)[j]?).getD undef))) (mkO (zl := ((n + m - 1 : Nat) : Int)) (zc := ((n + m - 1 : Nat) : Int)) (bts := 64) rfl rfl rfl rfl rfl (by omega) (by omega) rfl rfl rfl (by omega) (by omega) rfl) rfl rfl ?_
      refine mV hTT _ rfl ?_
      refine mNil ?_
      refine tN ?_
      refine cSeq ?_
      refine cSeq ?_
      refine cReg ?_
      refine mV hTT _ rfl ?_
      refine mV hTT (.d (.one (.v (.int .i64 ((n + m - 1 : Nat) : Int))))) rfl ?_
      refine mV hTT _ rfl ?_
      refine mNil ?_
      refine tN ?_
      refine cBlock ?_
      refine cLoop (ι := Nat) (fun (i : Nat) => ⟨69, [(0, .d (.one (.row 4 n (qel K c)))), (1, .d (.one (.row 4 m (qel L d)))), (5, .own 23), (25, .d (.one (.v (.int .i64 ((n + m - 1 : Nat) : Int))))), (26, .d (.one (.v (.int .i64 ((i : Nat) : Int)))))], [(23, .row 68 4 (n + m - 1) (qpre 64 i (fun _ => 0) (fun j => .v ((([Value.slice none 0 0, Value.bool false, Value.slice none 0 0, Value.bool false] : List Value)[j]?).getD undef))))]⟩) (fun (i : Nat) => i ≤ n + m - 1) (fun (i : Nat) => n + m - 1 - i) 0 (Nat.zero_le _) (wk (sl := [(0, .d (.one (.row 4 n (qel K c)))), (1, .d (.one (.row 4 m (qel L d)))), (5, .own 23), (25, .d (.one (.v (.int .i64 ((n + m - 1 : Nat) : Int))))), (26, .d (.one (.v (.int .i64 ((0 : Nat) : Int)))))]) (hp := [(23, .row 68 4 (n + m - 1) (qpre 64 0 (fun _ => 0) (fun j => .v ((([Value.slice none 0 0, Value.bool false, Value.slice none 0 0, Value.bool false] : List Value)[j]?).getD undef))))]) rfl ⟨hs rfl, hs rfl, hs rfl, hs rfl, hs rfl, trivial⟩ ⟨ho' rfl (leo_pre0), trivial⟩ rfl) ?_
      rintro i hI
      have hi : i ≤ n + m - 1 := hI
      show AW Try.prog _ _ ⟨69, [(0, .d (.one (.row 4 n (qel K c)))), (1, .d (.one (.row 4 m (qel L d)))), (5, .own 23), (25, .d (.one (.v (.int .i64 ((n + m - 1 : Nat) : Int))))), (26, .d (.one (.v (.int .i64 ((i : Nat) : Int)))))], [(23, .row 68 4 (n + m - 1) (qpre 64 i (fun _ => 0) (fun j => .v ((([Value.slice none 0 0, Value.bool false, Value.slice none 0 0, Value.bool false] : List Value)[j]?).getD undef))))]⟩
      refine cSeq ?_
      refine cReg ?_
      refine mV hTT (.d (.one (.v (.bool (decide (((i : Nat) : Int) < ((n + m - 1 : Nat) : Int))))))) rfl ?_
      refine mNil ?_
      refine tN ?_
      refine cSeq ?_
      refine cCond rfl (fun hc1 => ?_) (fun hc1 => ?_)
      · skip
        refine cSkip ?_
        refine tN ?_
        refine cSeq ?_
        refine cBlock ?_
        refine cSeq ?_
        have hin : i < n + m - 1 := by have h0 := of_decide_eq_true hc1; omega
        refine cReg ?_
        refine mV hTT _ rfl ?_
        refine mV hTT _ rfl ?_
        refine mNil ?_
        refine tN ?_
        refine cReg ?_
        refine mV hTT _ rfl ?_
        refine mV hTT _ rfl ?_
        refine mC0 (aQZero) rfl rfl rfl ?_
        refine mV hTT (.eptr 23 4 i 0) (ixO (z := ((i : Nat) : Int)) (n := (n + m - 1)) rfl rfl rfl rfl rfl rfl rfl (by omega) (by omega)) ?_
        refine mS hTT 23 (.row 68 4 (n + m - 1) (fun p' q' => if p' = i then ((qn 64 0)[q']?).getD (.v undef) else (qpre 64 i (fun _ => 0) (fun j => .v ((([Value.slice none 0 0, Value.bool false, Value.slice none 0 0, Value.bool false] : List Value)[j]?).getD undef))) p' q')) rfl ?_
        refine mNil ?_
        refine bN ?_
        refine tN ?_
        refine cReg ?_
        refine mV hTT (.d (.one (.v (.int .i64 (IntKind.i64.wrap (((i : Nat) : Int) + 1)))))) rfl ?_
        refine mV hTT _ rfl ?_
        refine mNil ?_
        exact ⟨(i + 1), by omega, by omega, wk (sl := [(0, .d (.one (.row 4 n (qel K c)))), (1, .d (.one (.row 4 m (qel L d)))), (5, .own 23), (25, .d (.one (.v (.int .i64 ((n + m - 1 : Nat) : Int))))), (26, .d (.one (.v (.int .i64 (((i + 1) : Nat) : Int)))))]) (hp := [(23, .row 68 4 (n + m - 1) (qpre 64 (i + 1) (fun _ => 0) (fun j => .v ((([Value.slice none 0 0, Value.bool false, Value.slice none 0 0, Value.bool false] : List Value)[j]?).getD undef))))]) rfl ⟨hs rfl, hs rfl, hs rfl, hs rfl, hs' rfl (le_int (inc64 (by omega))), trivial⟩ ⟨ho' rfl (st_pre (Nat.le_refl _) rfl), trivial⟩ rfl⟩
      · skip
        refine cExit ?_
        refine tE ?_
        refine tE ?_
        refine bE ?_
        refine tN ?_
        refine cSeq ?_
        refine cSeq ?_
        have hie : n + m - 1 = i := by have h0 := of_decide_eq_false hc1; omega
        subst hie
        refine cReg ?_
        refine mV hTT _ rfl ?_
        refine mV hTT (.d (.one (.v (.int .i64 (n : Int))))) rfl ?_
        refine mV hTT _ rfl ?_
        refine mNil ?_
        refine tN ?_
        refine cBlock ?_
        refine cLoop (ι := Nat) (fun (i : Nat) => ⟨69, [(0, .d (.one (.row 4 n (qel K c)))), (1, .d (.one (.row 4 m (qel L d)))), (5, .own 23), (35, .d (.one (.v (.int .i64 (n : Int))))), (36, .d (.one (.v (.int .i64 ((i : Nat) : Int)))))], [(23, .row 68 4 (n + m - 1) (qelv (fun _ => R i) (cv c d i)))]⟩) (fun (i : Nat) => i ≤ n) (fun (i : Nat) => n - i) 0 (Nat.zero_le _) (wk (sl := [(0, .d (.one (.row 4 n (qel K c)))), (1, .d (.one (.row 4 m (qel L d)))), (5, .own 23), (35, .d (.one (.v (.int .i64 (n : Int))))), (36, .d (.one (.v (.int .i64 ((0 : Nat) : Int)))))]) (hp := [(23, .row 68 4 (n + m - 1) (qelv (fun _ => R 0) (cv c d 0)))]) rfl ⟨hs rfl, hs rfl, hs rfl, hs rfl, hs rfl, trivial⟩ ⟨ho' rfl (leo_pre (fun p _ => hR0) (fun _ _ => rfl)), trivial⟩ rfl) ?_
        rintro i hI
        have hi2 : i ≤ n := hI
        show AW Try.prog _ _ ⟨69, [(0, .d (.one (.row 4 n (qel K c)))), (1, .d (.one (.row 4 m (qel L d)))), (5, .own 23), (35, .d (.one (.v (.int .i64 (n : Int))))), (36, .d (.one (.v (.int .i64 ((i : Nat) : Int)))))], [(23, .row 68 4 (n + m - 1) (qelv (fun _ => R i) (cv c d i)))]⟩
        refine cSeq ?_
        refine cReg ?_
        refine mV hTT (.d (.one (.v (.bool (decide (((i : Nat) : Int) < (n : Int))))))) rfl ?_
        refine mNil ?_
        refine tN ?_
        refine cSeq ?_
        refine cCond rfl (fun hc2 => ?_) (fun hc2 => ?_)
        · skip
          refine cSkip ?_
          refine tN ?_
          refine cSeq ?_
          refine cBlock ?_
          refine cSeq ?_
          have hia : i < n := by have h0 := of_decide_eq_true hc2; omega
          have hR := hR1 i
          have hRm := hRM (i + 1) hia
          refine cReg ?_
          refine mV hTT _ rfl ?_
          refine mV hTT _ rfl ?_
          refine mNil ?_
          refine tN ?_
          refine cSeq ?_
          refine cReg ?_
          refine mV hTT _ rfl ?_
          refine mV hTT (.d (.one (.v (.int .i64 (m : Int))))) rfl ?_
          refine mV hTT _ rfl ?_
          refine mNil ?_
          refine tN ?_
          refine cBlock ?_
          refine cLoop (ι := Nat) (fun (k : Nat) => ⟨69, [(0, .d (.one (.row 4 n (qel K c)))), (1, .d (.one (.row 4 m (qel L d)))), (5, .own 23), (35, .d (.one (.v (.int .i64 (n : Int))))), (36, .d (.one (.v (.int .i64 ((i : Nat) : Int))))), (7, .d (.one (.v (.int .i64 ((i : Nat) : Int))))), (40, .d (.one (.v (.int .i64 (m : Int))))), (41, .d (.one (.v (.int .i64 ((k : Nat) : Int)))))], [(23, .row 68 4 (n + m - 1) (qelv (kf R i k) (cvkQ c d i k)))]⟩) (fun (k : Nat) => k ≤ m) (fun (k : Nat) => m - k) 0 (Nat.zero_le _) (wk (sl := [(0, .d (.one (.row 4 n (qel K c)))), (1, .d (.one (.row 4 m (qel L d)))), (5, .own 23), (35, .d (.one (.v (.int .i64 (n : Int))))), (36, .d (.one (.v (.int .i64 ((i : Nat) : Int))))), (7, .d (.one (.v (.int .i64 ((i : Nat) : Int))))), (40, .d (.one (.v (.int .i64 (m : Int))))), (41, .d (.one (.v (.int .i64 ((0 : Nat) : Int)))))]) (hp := [(23, .row 68 4 (n + m - 1) (qelv (kf R i 0) (cvkQ c d i 0)))]) rfl ⟨hs rfl, hs rfl, hs rfl, hs rfl, hs rfl, hs rfl, hs rfl, hs rfl, trivial⟩ ⟨ho' rfl (leo_qelv (fun p _ => kf_start) (fun j _ => cvkQ_zero.symm)), trivial⟩ rfl) ?_
          rintro k hI
          have hk : k ≤ m := hI
          show AW Try.prog _ _ ⟨69, [(0, .d (.one (.row 4 n (qel K c)))), (1, .d (.one (.row 4 m (qel L d)))), (5, .own 23), (35, .d (.one (.v (.int .i64 (n : Int))))), (36, .d (.one (.v (.int .i64 ((i : Nat) : Int))))), (7, .d (.one (.v (.int .i64 ((i : Nat) : Int))))), (40, .d (.one (.v (.int .i64 (m : Int))))), (41, .d (.one (.v (.int .i64 ((k : Nat) : Int)))))], [(23, .row 68 4 (n + m - 1) (qelv (kf R i k) (cvkQ c d i k)))]⟩
          refine cSeq ?_
          refine cReg ?_
          refine mV hTT (.d (.one (.v (.bool (decide (((k : Nat) : Int) < (m : Int))))))) rfl ?_
          refine mNil ?_
          refine tN ?_
          refine cSeq ?_
          refine cCond rfl (fun hc3 => ?_) (fun hc3 => ?_)
          · skip
            refine cSkip ?_
            refine tN ?_
            refine cSeq ?_
            refine cBlock ?_
            refine cSeq ?_
            have hkb : k < m := by have h0 := of_decide_eq_true hc3; omega
            have hkf : kf R i k (i + k) = R i := kf_at
            refine cReg ?_
            refine mV hTT _ rfl ?_
            refine mV hTT _ rfl ?_
            refine mNil ?_
            refine tN ?_
            refine cDrawK hTT 21 (by kernel_rfl) (by kernel_rfl) (by kernel_rfl) ?_
            refine .cons (OpS.V _ rfl) ?_
            refine .cons (OpS.V _ rfl) ?_
            refine .cons (OpS.V _ rfl) ?_
            refine .cons (OpS.V (.d (.one (.v (.int .i64 ((i + k : Nat) : Int))))) (evi ((wr64 (by omega) (by omega)).trans (by omega)))) ?_
            refine .cons (OpS.V _ rfl) ?_
            refine .cons (OpS.V _ rfl) ?_
            refine .cons (OpS.V _ rfl) ?_
            refine .cons (OpS.V (.d (.one (.v (.int .i64 ((i + k : Nat) : Int))))) (evi ((wr64 (by omega) (by omega)).trans (by omega)))) ?_
            refine .cons (OpS.V (.eptr 23 4 (i + k) 0) (ixO (z := ((i + k : Nat) : Int)) (n := (n + m - 1)) rfl rfl rfl rfl rfl rfl rfl (by omega) (by omega))) ?_
            refine .cons (OpS.V (.d (.agg (qn (kf R i k (i + k)) (cvkQ c d i k (i + k))))) rfl) ?_
            refine .cons (OpS.V _ rfl) ?_
            refine .cons (OpS.V _ rfl) ?_
            refine .cons (OpS.V (.d (.one (.at 4 ((qel K c) i)))) (ixR (el := (qel K c)) (z := ((i : Nat) : Int)) (n := n) rfl rfl rfl rfl rfl rfl (by omega) (by omega))) ?_
            refine .cons (OpS.V (.d (.agg (qn K (c i)))) rfl) ?_
            refine .cons (OpS.V _ rfl) ?_
            refine .cons (OpS.V _ rfl) ?_
            refine .cons (OpS.V (.d (.one (.at 4 ((qel L d) k)))) (ixR (el := (qel L d)) (z := ((k : Nat) : Int)) (n := m) rfl rfl rfl rfl rfl rfl (by omega) (by omega))) ?_
            refine .cons (OpS.V (.d (.agg (qn L (d k)))) rfl) ?_
            refine .cons (OpS.C0 (aRMulR (isq K (c i)) (isq L (d k)) (M := (max (K + L + 1) 64)) (by omega) (by omega)) rfl rfl rfl) ?_
            refine .cons (OpS.C0 (aRAddR (isq (kf R i k (i + k)) (cvkQ c d i k (i + k))) (isq (max (K + L + 1) 64) ((c i) * (d k))) (M := (max ((kf R i k (i + k)) + (max (K + L + 1) 64) + 1) 64)) (by omega) (by omega)) rfl rfl rfl) ?_
            refine .cons (OpS.V (.eptr 23 4 (i + k) 0) (ixO (z := ((i + k : Nat) : Int)) (n := (n + m - 1)) rfl rfl rfl rfl rfl rfl rfl (by omega) (by omega))) ?_
            refine .nil ?_
            refine mS hTT 23 (.row 68 4 (n + m - 1) (fun p' q' => if p' = (i + k) then ((qn (max ((kf R i k (i + k)) + (max (K + L + 1) 64) + 1) 64) ((cvkQ c d i k (i + k)) + ((c i) * (d k))))[q']?).getD (.v undef) else (qelv (kf R i k) (cvkQ c d i k)) p' q')) rfl ?_
            refine mNil ?_
            refine bN ?_
            refine tN ?_
            refine cReg ?_
            refine mV hTT (.d (.one (.v (.int .i64 (IntKind.i64.wrap (((k : Nat) : Int) + 1)))))) rfl ?_
            refine mV hTT _ rfl ?_
            refine mNil ?_
            exact ⟨(k + 1), by omega, by omega, wk (sl := [(0, .d (.one (.row 4 n (qel K c)))), (1, .d (.one (.row 4 m (qel L d)))), (5, .own 23), (35, .d (.one (.v (.int .i64 (n : Int))))), (36, .d (.one (.v (.int .i64 ((i : Nat) : Int))))), (7, .d (.one (.v (.int .i64 ((i : Nat) : Int))))), (40, .d (.one (.v (.int .i64 (m : Int))))), (41, .d (.one (.v (.int .i64 (((k + 1) : Nat) : Int)))))]) (hp := [(23, .row 68 4 (n + m - 1) (qelv (kf R i (k + 1)) (cvkQ c d i (k + 1))))]) rfl ⟨hs rfl, hs rfl, hs rfl, hs rfl, hs rfl, hs rfl, hs rfl, hs' rfl (le_int (inc64 (by omega))), trivial⟩ ⟨ho' rfl (st_q (fun p _ _ => kf_le (by omega)) (by rw [kf_new]; omega) cvkQ_step (fun p _ hp => cvkQ_other hp)), trivial⟩ rfl⟩
          · skip
            refine cExit ?_
            refine tE ?_
            refine tE ?_
            refine bE ?_
            refine bN ?_
            refine tN ?_
            have hke : m = k := by have h0 := of_decide_eq_false hc3; omega
            subst hke
            refine cReg ?_
            refine mV hTT (.d (.one (.v (.int .i64 (IntKind.i64.wrap (((i : Nat) : Int) + 1)))))) rfl ?_
            refine mV hTT _ rfl ?_
            refine mNil ?_
            exact ⟨(i + 1), by omega, by omega, wk (sl := [(0, .d (.one (.row 4 n (qel K c)))), (1, .d (.one (.row 4 m (qel L d)))), (5, .own 23), (35, .d (.one (.v (.int .i64 (n : Int))))), (36, .d (.one (.v (.int .i64 (((i + 1) : Nat) : Int)))))]) (hp := [(23, .row 68 4 (n + m - 1) (qelv (fun _ => R (i + 1)) (cv c d (i + 1))))]) rfl ⟨hs rfl, hs rfl, hs rfl, hs rfl, hs' rfl (le_int (inc64 (by omega))), trivial⟩ ⟨ho' rfl (leo_qelv (fun p _ => kf_end (by omega)) (fun j _ => cvkQ_end zb)), trivial⟩ rfl⟩
        · skip
          refine cExit ?_
          refine tE ?_
          refine tE ?_
          refine bE ?_
          refine tN ?_
          refine cSeq ?_
          have hie2 : n = i := by have h0 := of_decide_eq_false hc2; omega
          subst hie2
          refine AW.wk (wkRow 23 rfl) ?_
          refine cView 5 (.d (.one (.row 4 (n + m - 1) (qel M (conv c d))))) rfl (le_one (row_qelv (fun p _ => hRM n (Nat.le_refl _)) (fun j _ => cv_convQ za))) ?_
          refine cReg ?_
          refine mV hTT _ rfl ?_
          refine mC0 (aQCut (K := M) (n := (n + m - 1)) (c := (conv c d)) (by omega)) rfl rfl rfl ?_
          refine mV hTT _ rfl ?_
          refine mNil ?_
          refine tN ?_
          refine cRet ?_
          exact rQ rfl (le_qrow (Nat.le_refl _) (dg_eq (fun j hj => conv_beyondQ za zb (by omega)) (fun j hj => conv_beyondQ za zb (by omega))) (fun _ _ => rfl))

end Go.Proofs.Ytlkdlicbhhackaa

/-
  POLYNOMIALS, by the machine (5): sums and products of many, Move; the law's Cut, is, wakes.
-/
set_option linter.unusedVariables false
set_option linter.unusedSimpArgs false
namespace Go.Proofs.Ytlkdlicbhhackaa
open Go.RowKit

set_option maxRecDepth 100000 in
set_option maxHeartbeats 4000000 in
theorem aPMove {a : Lf} {b e : List Lf} {K L1 L2 M n D T : Nat} {c : Nat → Int} {x y : Int} (ha : IsP a K n c) (hb : IsZ b L1 x) (hd : IsZ e L2 y) (hy : ¬ y = 0) (hn : n ≤ D) (hDD : D ≤ 500 := by decide) (hT : K + 2 * (L1 + L2) + 1000 * (D + 3) ≤ T := by decide) (hM : (D + 1) * T ≤ M := by decide) (hMM : M ≤ 100000000 := by decide) : ACall Try.prog 66 [.one a, .agg b, .agg e] (.tup [.one (prow M (dg (mvZ c x y (dg c n) (dg c n)) (dg c n + 1)) (mvZ c x y (dg c n) (dg c n))), .one (.v (.int .i64 0))]) := by
  obtain ⟨⟨fa, ha, ea⟩, za⟩ := ha
  obtain ⟨s1, xs1, hb, ex⟩ := hb
  obtain ⟨s2, xs2, hd, ey⟩ := hd
  refine ACall.le (dl (DV.l ha) (dl (DV.z hb) (dl (DV.z hd) dl0))) AV.le.rfl ?_
  obtain ⟨R, hR0, hR1, hRM⟩ : ∃ R : Nat → Nat, 2 ≤ R 0 ∧ (∀ i, R i + T ≤ R (i + 1)) ∧ ∀ i, i ≤ D → R i ≤ M := ⟨fun i => (i + 1) * T, by show 2 ≤ (0 + 1) * T; omega, fun i => by show (i + 1) * T + T ≤ (i + 1 + 1) * T; rw [Nat.succ_mul (i + 1)]; exact Nat.le_refl _, fun i hi => Nat.le_trans (Nat.mul_le_mul_right _ (by omega)) hM⟩
  have hT1 := hRM 0 (Nat.zero_le _)
  have hTM : T ≤ M := Nat.le_trans (Nat.le_mul_of_pos_left T (by omega)) hM
  refine acallN hTT 45 [.tmp 6, .tmp 7] Try.func66 rfl rfl rfl rfl rfl ?_
  refine cSeq ?_
  refine cReg ?_
  refine mN hTT (.box 36 ([.v (.bool s1), lr L1 xs1])) rfl rfl rfl ?_
  refine mN hTT (.box 36 ([.v (.bool s2), lr L2 xs2])) rfl rfl rfl ?_
  refine mV hTT _ rfl ?_
  refine mV hTT _ rfl ?_
  refine mNil ?_
  refine tN ?_
  refine cSeq ?_
  refine cSeq ?_
  refine cReg ?_
  refine mV hTT (.d (.agg ([.v (.bool s2), lr L2 xs2]))) rfl ?_
  refine mC0 (aNorm ⟨s2, xs2, fun _ _ _ h => h, ey⟩ (by omega)) rfl rfl rfl ?_
  refine mC0 (aZero (isn L2 y)) rfl rfl rfl ?_
  refine mNil ?_
  refine tN ?_
  refine cView 14 (.d (.one (.v (.bool false)))) rfl (le_bool (decide_eq_false hy)) ?_
  refine cF rfl ?_
  refine cSkip ?_
  refine tN ?_
  refine cSeq ?_
  refine cReg ?_
  refine mV hTT _ rfl ?_
  refine mC0 (aPNorm (⟨⟨fa, fun _ _ _ h => h, ea⟩, za⟩ : IsP (arow K n fa) K n c) (by omega) (by omega)) rfl rfl rfl ?_
  refine mV hTT _ rfl ?_
  refine mNil ?_
  refine tN ?_
  refine cSeq ?_
  refine cReg ?_
  refine mV hTT _ rfl ?_
  refine mNil ?_
  refine tN ?_
  refine cSeq ?_
  refine cDrawK hTT 8 (by kernel_rfl) (by kernel_rfl) (by kernel_rfl) ?_
  refine .cons (OpS.V (.d (.agg ([.v (.bool s1), lr L1 xs1]))) rfl) ?_
  refine .cons (OpS.C0 (aNorm ⟨s1, xs1, fun _ _ _ h => h, ex⟩ (by omega)) rfl rfl rfl) ?_
  refine .cons (OpS.V (.d (.agg ([.v (.bool s2), lr L2 xs2]))) rfl) ?_
  refine .cons (OpS.C0 (aNorm ⟨s2, xs2, fun _ _ _ h => h, ey⟩ (by omega)) rfl rfl rfl) ?_
  refine .cons (OpS.B _ rfl) ?_
  refine .cons (OpS.C0 (aOf (n := 1) (by decide) (by decide)) rfl rfl rfl) ?_
  refine .cons (OpS.N (.box 36 ([.v (.bool false), .v (.slice none 0 0)])) rfl 10 rfl rfl) ?_
  refine .cons (OpS.V _ rfl) ?_
  refine .nil ?_
  refine mS hTT 10 (.box 36 (zn 2 1)) rfl ?_
  refine mNil ?_
  refine tN ?_
  refine cSeq ?_
  refine cSeq ?_
  have hla := dg_le c n
  refine cReg ?_
  refine mV hTT _ rfl ?_
  refine mV hTT (.d (.one (.v (.int .i64 ((dg c n : Nat) : Int))))) rfl ?_
  refine mV hTT (.d (.one (.v (.int .i64 ((dg c n : Int) - 1))))) (evi (wr64 (by omega) (by omega))) ?_
  refine mV hTT _ rfl ?_
  refine mNil ?_
  refine tN ?_
  refine cBlock ?_
  refine cLoop (ι := Nat) (fun (s : Nat) => ⟨45, [(0, .d (.one (.row 2 (dg c n) (zel K c)))), (5, .ptr 5 0), (8, .d (.one (.row 2 (dg (mvZ c x y (dg c n) s) (s + 1)) (zel (R s) (mvZ c x y (dg c n) s))))), (9, .d (.one (.row 2 2 (fun i' j' => ((zn L1 x ++ zn L2 y)[i' * 2 + j']?).getD (.v undef))))), (10, .ptr 10 0), (11, .d (.one (.v (.int .i64 ((dg c n : Int) - 1 - (s : Int))))))], [(5, .box 36 ([.v (.bool s2), lr L2 xs2])), (10, .box 36 (zn (R s) (y ^ s)))]⟩) (fun (s : Nat) => s ≤ dg c n) (fun (s : Nat) => dg c n - s) 0 (Nat.zero_le _) (wk (sl := [(0, .d (.one (.row 2 (dg c n) (zel K c)))), (5, .ptr 5 0), (8, .d (.one (.row 2 (dg (mvZ c x y (dg c n) 0) (0 + 1)) (zel (R 0) (mvZ c x y (dg c n) 0))))), (9, .d (.one (.row 2 2 (fun i' j' => ((zn L1 x ++ zn L2 y)[i' * 2 + j']?).getD (.v undef))))), (10, .ptr 10 0), (11, .d (.one (.v (.int .i64 ((dg c n : Int) - 1 - ((0 : Nat) : Int))))))]) (hp := [(5, .box 36 ([.v (.bool s2), lr L2 xs2])), (10, .box 36 (zn (R 0) (y ^ 0)))]) rfl ⟨hs rfl, hs rfl, hs' rfl (nil_prow' (dg_zero (fun _ => rfl) _)), hs rfl, hs rfl, hs' rfl (le_int (by omega)), trivial⟩ ⟨ho rfl, ho' rfl (leo_zn (by omega) (Int.pow_zero y).symm), trivial⟩ rfl) ?_
  rintro s hI
  have hi : s ≤ dg c n := hI
  show AW Try.prog _ _ ⟨45, [(0, .d (.one (.row 2 (dg c n) (zel K c)))), (5, .ptr 5 0), (8, .d (.one (.row 2 (dg (mvZ c x y (dg c n) s) (s + 1)) (zel (R s) (mvZ c x y (dg c n) s))))), (9, .d (.one (.row 2 2 (fun i' j' => ((zn L1 x ++ zn L2 y)[i' * 2 + j']?).getD (.v undef))))), (10, .ptr 10 0), (11, .d (.one (.v (.int .i64 ((dg c n : Int) - 1 - (s : Int))))))], [(5, .box 36 ([.v (.bool s2), lr L2 xs2])), (10, .box 36 (zn (R s) (y ^ s)))]⟩
  refine cSeq ?_
  refine cSeq ?_
  refine cReg ?_
  refine mV hTT _ rfl ?_
  refine mV hTT (.d (.one (.v (.bool (decide (((dg c n : Int) - 1 - (s : Int)) ≥ 0)))))) rfl ?_
  refine mNil ?_
  refine tN ?_
  refine cCond rfl (fun hc1 => ?_) (fun hc1 => ?_)
  · skip
    refine cSkip ?_
    refine tN ?_
    refine cSeq ?_
    refine cBlock ?_
    refine cSeq ?_
    have hsd : s < dg c n := by have h0 := of_decide_eq_true hc1; omega
    have hR := hR1 s
    have hRm := hRM (s + 1) (by omega)
    have hd1 := dg_le (mvZ c x y (dg c n) s) (s + 1)
    have hd2 := dg_le (conv (mvZ c x y (dg c n) s) (lin x y)) (dg (mvZ c x y (dg c n) s) (s + 1) + 2)
    refine cView 11 (.d (.one (.v (.int .i64 ((dg c n - 1 - s : Nat) : Int))))) rfl (le_int (by omega)) ?_
    refine cDrawK hTT 12 (by kernel_rfl) (by kernel_rfl) (by kernel_rfl) ?_
    refine .cons (OpS.V _ rfl) ?_
    refine .cons (OpS.V _ rfl) ?_
    refine .cons (OpS.C0 (aPMul (isp (K := (R s)) (c := (mvZ c x y (dg c n) s)) (dg_z fun j hj => mvZ_z s j (by omega))) (show IsP _ (max L1 L2) 2 (lin x y) from isp2 (M := L1) (N := L2) (z := x) (y := y) (by omega) (by omega)) (M := (R s + (max L1 L2) + 1 + (s + 1) * 1000)) (D := s + 1) (by omega) (by omega) (by omega) (by omega) (by omega)) rfl rfl rfl) ?_
    refine .cons (OpS.V _ rfl) ?_
    refine .cons (OpS.V _ rfl) ?_
    refine .cons (OpS.V (.d (.one (.at 2 ((zel K c) (dg c n - 1 - s))))) (ixR (el := (zel K c)) (z := ((dg c n - 1 - s : Nat) : Int)) (n := (dg c n)) rfl rfl rfl rfl rfl rfl (by omega) (by omega))) ?_
    refine .cons (OpS.V (.d (.agg (zn K (c (dg c n - 1 - s))))) rfl) ?_
    refine .cons (OpS.V (.d (.agg (zn (R s) (y ^ s)))) rfl) ?_
    refine .cons (OpS.C0 (aMul (isz K (c (dg c n - 1 - s))) (isz (R s) (y ^ s)) (M := (K + (R s))) (by omega) (by omega) (by omega)) rfl rfl rfl) ?_
    refine .cons (OpS.B _ rfl) ?_
    refine .cons (OpS.C0 (aPAdd (isp (K := (R s + (max L1 L2) + 1 + (s + 1) * 1000)) (c := (conv (mvZ c x y (dg c n) s) (lin x y))) (dg_z (conv_z0 (dg_z fun j hj => mvZ_z s j (by omega)) lin_z))) (show IsP _ (K + R s) 1 (onez (c (dg c n - 1 - s) * y ^ s)) from isp1 (z := (c (dg c n - 1 - s) * y ^ s)) (Nat.le_refl _)) (M := (max (R s + (max L1 L2) + 1 + (s + 1) * 1000) (K + R s) + 1)) (by omega) (by omega) (by omega)) rfl rfl rfl) ?_
    refine .cons (OpS.V _ rfl) ?_
    refine .nil ?_
    refine mNil ?_
    refine tN ?_
    refine cReg ?_
    refine mV hTT (.d (.agg (zn (R s) (y ^ s)))) rfl ?_
    refine mV hTT (.d (.agg ([.v (.bool s2), lr L2 xs2]))) rfl ?_
    refine mC0 (aMul (isz (R s) (y ^ s)) ⟨s2, xs2, fun _ _ _ h => h, ey⟩ (M := ((R s) + L2)) (by omega) (by omega) (by omega)) rfl rfl rfl ?_
    refine mS hTT 10 (.box 36 (zn ((R s) + L2) ((y ^ s) * y))) rfl ?_
    refine mNil ?_
    refine bN ?_
    refine tN ?_
    refine cReg ?_
    refine mV hTT _ rfl ?_
    refine mV hTT (.d (.one (.v (.int .i64 (IntKind.i64.wrap (((dg c n - 1 - s : Nat) : Int) - 1)))))) rfl ?_
    refine mV hTT _ rfl ?_
    refine mNil ?_
    exact ⟨(s + 1), by omega, by omega, wk (sl := [(0, .d (.one (.row 2 (dg c n) (zel K c)))), (5, .ptr 5 0), (8, .d (.one (.row 2 (dg (mvZ c x y (dg c n) (s + 1)) ((s + 1) + 1)) (zel (R (s + 1)) (mvZ c x y (dg c n) (s + 1)))))), (9, .d (.one (.row 2 2 (fun i' j' => ((zn L1 x ++ zn L2 y)[i' * 2 + j']?).getD (.v undef))))), (10, .ptr 10 0), (11, .d (.one (.v (.int .i64 ((dg c n : Int) - 1 - ((s + 1) : Int))))))]) (hp := [(5, .box 36 ([.v (.bool s2), lr L2 xs2])), (10, .box 36 (zn (R (s + 1)) (y ^ (s + 1))))]) rfl ⟨hs rfl, hs rfl, hs' rfl (le_prow (by omega) (dg_eq (fadd_z (dg_z (conv_z0 (dg_z fun j hj => mvZ_z s j (by omega)) lin_z)) onez_z) (fun j hj => mvZ_z (s + 1) j (by omega))) (fun _ _ => rfl)), hs rfl, hs rfl, hs' rfl (le_int ((wr64 (by omega) (by omega)).trans (by omega))), trivial⟩ ⟨ho rfl, ho' rfl (leo_zn (by omega) (Int.pow_succ y s).symm), trivial⟩ rfl⟩
  · skip
    refine cExit ?_
    refine tE ?_
    refine tE ?_
    refine bE ?_
    refine tN ?_
    refine cSeq ?_
    have hie : dg c n = s := by have h0 := of_decide_eq_false hc1; omega
    subst hie
    refine cReg ?_
    refine mV hTT _ rfl ?_
    refine mV hTT _ rfl ?_
    refine mV hTT _ rfl ?_
    refine mNil ?_
    refine tN ?_
    refine cRet ?_
    exact rQ rfl (le_tup (dl (dle (le_prow (hRM _ (by omega)) rfl (fun _ _ => rfl))) (dl DV.same dl0)))

set_option maxRecDepth 100000 in
set_option maxHeartbeats 4000000 in
theorem aPMove0 {a : Lf} {b e : List Lf} {K L1 L2 n : Nat} {c : Nat → Int} {x y : Int} (ha : IsP a K n c) (hb : IsZ b L1 x) (hd : IsZ e L2 y) (hy : y = 0) (hL : L2 ≤ 100000000 := by decide) : ACall Try.prog 66 [.one a, .agg b, .agg e] (.tup [.one (.v (.slice none 0 0)), .one (.v (.int .i64 2))]) := by
  obtain ⟨⟨fa, ha, ea⟩, za⟩ := ha
  obtain ⟨s1, xs1, hb, ex⟩ := hb
  obtain ⟨s2, xs2, hd, ey⟩ := hd
  refine ACall.le (dl (DV.l ha) (dl (DV.z hb) (dl (DV.z hd) dl0))) AV.le.rfl ?_
  refine acallN hTT 45 [.tmp 6, .tmp 7] Try.func66 rfl rfl rfl rfl rfl ?_
  refine cSeq ?_
  refine cReg ?_
  refine mN hTT (.box 36 ([.v (.bool s1), lr L1 xs1])) rfl rfl rfl ?_
  refine mN hTT (.box 36 ([.v (.bool s2), lr L2 xs2])) rfl rfl rfl ?_
  refine mV hTT _ rfl ?_
  refine mV hTT _ rfl ?_
  refine mNil ?_
  refine tN ?_
  refine cSeq ?_
  refine cSeq ?_
  refine cReg ?_
  refine mV hTT (.d (.agg ([.v (.bool s2), lr L2 xs2]))) rfl ?_
  refine mC0 (aNorm ⟨s2, xs2, fun _ _ _ h => h, ey⟩ (by omega)) rfl rfl rfl ?_
  refine mC0 (aZero (isn L2 y)) rfl rfl rfl ?_
  refine mNil ?_
  refine tN ?_
  refine cView 14 (.d (.one (.v (.bool true)))) rfl (le_bool (decide_eq_true hy)) ?_
  refine cT rfl ?_
  refine cSeq ?_
  refine cReg ?_
  refine mV hTT _ rfl ?_
  refine mV hTT _ rfl ?_
  refine mNil ?_
  refine tN ?_
  refine cRet ?_
  refine tR ?_
  exact rQ rfl (AV.le.rfl)

set_option maxRecDepth 100000 in
set_option maxHeartbeats 4000000 in
theorem aIs {a b : Lf} {K L n m : Nat} {q : Nat → Rat} {c : Nat → Int} (ha : ∀ B w v, LfR B w a v → LfR B w (qrow K n q) v) (hb : ∀ B w v, LfR B w b v → LfR B w (prow L m c) v) (hnm : n = m) (hqc : ∀ i, i < m → q i = rc c i) (hn : m ≤ 1000000 := by decide) (hK : K ≤ 10000000 := by decide) (hL : L ≤ 1000000000 := by decide) : ACall Try.prog 9 [.one a, .one b] (.d (.one (.v (.bool true)))) := by
  subst hnm
  refine ACall.le (dl (DV.l fun B w v h => row_le (qel_le (Nat.le_refl K) hqc) _ _ _ (ha B w v h)) (dl (DV.l hb) dl0)) AV.le.rfl ?_
  refine acallN hTT 8 [.tmp 4] Try.func9 rfl rfl rfl rfl rfl ?_
  refine cSeq ?_
  refine cReg ?_
  refine mV hTT _ rfl ?_
  refine mNil ?_
  refine tN ?_
  refine cSeq ?_
  refine cReg ?_
  refine mV hTT _ rfl ?_
  refine mV hTT _ rfl ?_
  refine mC0 (aQSame (K := K) (L := L) (n := n) (c := c) (fun _ _ _ h => h) (fun _ _ _ h => h) (by omega) (by omega) (by omega)) rfl rfl rfl ?_
  refine mV hTT _ rfl ?_
  refine mNil ?_
  refine tN ?_
  refine cRet ?_
  exact rQ rfl (AV.le.rfl)

end Go.Proofs.Ytlkdlicbhhackaa

/-
  PLAIN LAW of chapter 5: Horner's rule over rationals and over whole numbers. No condition; nothing of the program.
-/
set_option linter.unusedVariables false
set_option linter.unusedSimpArgs false
namespace Go.Proofs.Ytlkdlicbhhackaa
open Go.RowKit

def linQ (q r : Rat) : Nat → Rat := fun i => if i = 0 then q else if i = 1 then r else 0
def oneQ (q : Rat) : Nat → Rat := fun i => if i = 0 then q else 0
theorem linQ_z {q r : Rat} : ∀ i, 2 ≤ i → linQ q r i = 0 := fun i hi => by unfold linQ; rw [if_neg (by omega), if_neg (by omega)]
theorem oneQ_z {q : Rat} : ∀ i, 1 ≤ i → oneQ q i = 0 := fun i hi => if_neg (by omega)
def hvQ (a : Nat → Rat) (q : Rat) (top : Nat) : Nat → Nat → Rat
  | 0 => fun _ => 0
  | s + 1 => faddQ (conv (hvQ a q top s) (linQ q (((1 : Int) : Int) : Rat))) (oneQ (a (top - 1 - s)))
theorem hvQ_z {a : Nat → Rat} {q : Rat} {top : Nat} : ∀ (s j : Nat), s ≤ j → hvQ a q top s j = 0
  | 0, _, _ => rfl
  | s + 1, j, hj => by
    show conv (hvQ a q top s) (linQ q _) j + oneQ _ j = 0
    rw [conv_beyondQ (n := s) (m := 2) (hvQ_z s) linQ_z (by omega), oneQ_z j (by omega)]; exact Rat.add_zero 0
def scQ (w : Nat → Rat) (q : Rat) : Nat → Nat → Rat
  | 0 => w
  | j + 1 => fsclQ (scQ w q j) q
theorem scQ_z {w : Nat → Rat} {q : Rat} {n : Nat} (h : ∀ i, n ≤ i → w i = 0) : ∀ j i, n ≤ i → scQ w q j i = 0
  | 0 => h
  | j + 1 => fsclQ_z (scQ_z h j)
theorem scQ_pow {w : Nat → Rat} {q : Rat} {i : Nat} : ∀ j, scQ w q j i = w i * q ^ j
  | 0 => by show w i = _; rw [Rat.pow_zero, Rat.mul_one]
  | j + 1 => by show scQ w q j i * q = _; rw [scQ_pow j, Rat.pow_succ, Rat.mul_assoc]

theorem cv_low {a b : Nat → Int} {j : Nat} (hb : ∀ i, 2 ≤ i → b i = 0) : ∀ m, m + 1 ≤ j → cv a b m j = 0 := fun m hm => conv_z fun i hi hij => by rw [hb (j - i) (by omega)]; simp
theorem cv_lowQ {a b : Nat → Rat} {j : Nat} (hb : ∀ i, 2 ≤ i → b i = 0) : ∀ m, m + 1 ≤ j → cv a b m j = 0 := fun m hm => conv_zQ fun i hi hij => by rw [hb (j - i) (by omega)]; grind
theorem conv_lin {a : Nat → Int} {x y : Int} : ∀ j, conv a (lin x y) j = a j * x + (if j = 0 then 0 else a (j - 1) * y)
  | 0 => by
    show cv a (lin x y) 0 0 + (if 0 ≤ 0 then a 0 * lin x y (0 - 0) else 0) = _
    rw [if_pos (Nat.le_refl _), if_pos rfl]
    show 0 + a 0 * x = a 0 * x + 0
    omega
  | j + 1 => by
    show (cv a (lin x y) j (j + 1) + (if j ≤ j + 1 then a j * lin x y (j + 1 - j) else 0)) + (if j + 1 ≤ j + 1 then a (j + 1) * lin x y (j + 1 - (j + 1)) else 0) = _
    rw [cv_low lin_z j (Nat.le_refl _), if_pos (by omega), if_pos (Nat.le_refl _), if_neg (by omega), Nat.sub_self, show j + 1 - j = 1 by omega, Nat.add_sub_cancel]
    show (0 + a j * y) + a (j + 1) * x = a (j + 1) * x + a j * y
    omega
theorem conv_linQ {a : Nat → Rat} {x y : Rat} : ∀ j, conv a (linQ x y) j = a j * x + (if j = 0 then 0 else a (j - 1) * y)
  | 0 => by
    show cv a (linQ x y) 0 0 + (if 0 ≤ 0 then a 0 * linQ x y (0 - 0) else 0) = _
    rw [if_pos (Nat.le_refl _), if_pos rfl]
    show 0 + a 0 * x = a 0 * x + 0
    grind
  | j + 1 => by
    show (cv a (linQ x y) j (j + 1) + (if j ≤ j + 1 then a j * linQ x y (j + 1 - j) else 0)) + (if j + 1 ≤ j + 1 then a (j + 1) * linQ x y (j + 1 - (j + 1)) else 0) = _
    rw [cv_lowQ linQ_z j (Nat.le_refl _), if_pos (by omega), if_pos (Nat.le_refl _), if_neg (by omega), Nat.sub_self, show j + 1 - j = 1 by omega, Nat.add_sub_cancel]
    show (0 + a j * y) + a (j + 1) * x = a (j + 1) * x + a j * y
    grind
theorem mkR_div {x y : Int} (hy : ¬ y = 0) : mkR x y * (y : Rat) = (x : Rat) := by
  rw [← mkR_int y, ← mkR_int x, mkR_ne hy, mkR_ne (by decide), mkR_ne (by decide), Rat.divInt_mul_divInt, Int.mul_one, Int.mul_comm x y]
  have h := Rat.divInt_mul_left (n := x) (d := 1) hy
  rwa [Int.mul_one] at h
theorem cast_pow (y : Int) : ∀ s : Nat, ((y ^ s : Int) : Rat) = (y : Rat) ^ s
  | 0 => rfl
  | s + 1 => by rw [Int.pow_succ, Rat.intCast_mul, cast_pow y s, Rat.pow_succ]
/-- Step by step: over whole numbers as over rationals, but for a power of the denominator. -/
theorem mv_hv {a : Nat → Int} {x y : Int} {top : Nat} (hy : ¬ y = 0) : ∀ s i, ((mvZ a x y top s i : Int) : Rat) * (y : Rat) = (y : Rat) ^ s * hvQ (rc a) (mkR x y) top s i
  | 0, i => by show ((0 : Int) : Rat) * _ = _ * (0 : Rat); rw [Rat.mul_zero]; exact Rat.zero_mul _
  | s + 1, i => by
    have h0 := mv_hv (a := a) (x := x) (y := y) (top := top) hy s i
    have h1 := mv_hv (a := a) (x := x) (y := y) (top := top) hy s (i - 1)
    have hq := mkR_div (x := x) hy
    show ((conv (mvZ a x y top s) (lin x y) i + onez (a (top - 1 - s) * y ^ s) i : Int) : Rat) * (y : Rat) = (y : Rat) ^ (s + 1) * (conv (hvQ (rc a) (mkR x y) top s) (linQ (mkR x y) (((1 : Int) : Int) : Rat)) i + oneQ (rc a (top - 1 - s)) i)
    rw [conv_lin, conv_linQ, Rat.intCast_add, Rat.intCast_add, Rat.intCast_mul, Rat.pow_succ]
    have h1c : (((1 : Int) : Int) : Rat) = 1 := rfl
    rw [h1c]
    have hrc : rc a (top - 1 - s) = ((a (top - 1 - s) : Int) : Rat) := rfl
    rw [hrc]
    unfold onez oneQ
    by_cases hi : i = 0
    · subst hi
      rw [if_pos rfl, if_pos rfl, if_pos rfl, if_pos rfl, Rat.intCast_mul, cast_pow]
      have h00 : ((0 : Int) : Rat) = 0 := rfl
      rw [h00]
      grind
    · rw [if_neg hi, if_neg hi, if_neg hi, if_neg hi, Rat.intCast_mul]
      have h00 : ((0 : Int) : Rat) = 0 := rfl
      rw [h00]
      grind
theorem pow_ne {q : Rat} (h : q ≠ 0) : ∀ s : Nat, q ^ s ≠ 0
  | 0 => by rw [Rat.pow_zero]; decide
  | s + 1 => by rw [Rat.pow_succ]; intro e; rcases Rat.mul_eq_zero.1 e with e | e; exact pow_ne h s e; exact h e
theorem mv_end {a : Nat → Int} {x y : Int} {n : Nat} (hy : ¬ y = 0) (i : Nat) : scQ (hvQ (rc a) (mkR x y) n n) (mkR y 1) (n - 1) i = rc (mvZ a x y n n) i := by
  rw [scQ_pow, mkR_int]
  show _ = ((mvZ a x y n n i : Int) : Rat)
  have h := mv_hv (a := a) (x := x) (y := y) (top := n) hy n i
  have hy' : (y : Rat) ≠ 0 := fun e => hy (Rat.intCast_eq_zero_iff.1 e)
  cases n with
  | zero => show (0 : Rat) * _ = ((0 : Int) : Rat); exact Rat.zero_mul _
  | succ s =>
    rw [Nat.add_sub_cancel]
    rw [Rat.pow_succ] at h
    grind
theorem dg_fun {α : Type} [DecidableEq α] [OfNat α 0] {c d : Nat → α} (h : ∀ i, c i = d i) (n : Nat) : dg c n = dg d n := by rw [funext h]
/-- The bounds in PolyMoves. -/
def KW : Nat → Nat
  | 0 => 64
  | s + 1 => (s + 2) * (KW s + 64 + 66) + 70
theorem KW_le : ∀ s, s ≤ 6 → KW s ≤ 5000000 := by decide
end Go.Proofs.Ytlkdlicbhhackaa

/-
  THE LAWS of chapter 5, by the machine (0): Cut, wakes.
-/
set_option linter.unusedVariables false
set_option linter.unusedSimpArgs false
namespace Go.Proofs.Ytlkdlicbhhackaa
open Go.RowKit

set_option maxRecDepth 100000 in
set_option maxHeartbeats 4000000 in
theorem aCut {K n m k M : Nat} {f : Nat → Bool × List Nat} (hM : max (3 * k) 64 ≤ M) (hm : m ≤ 1000) (hk : k ≤ 1000) (hK : K ≤ 9223372036854775807 := by decide) : ACall Try.prog 6 [.one (arow K n f), .one (.v (.int .i64 (m : Int))), .one (.v (.int .i64 (k : Int)))] (.tup [.one (arow k (min n m) (cutf k f)), .one (qrow M (dg (cfz (min n m) (cutf k f)) (min n m)) (rc (cfz (min n m) (cutf k f))))]) := by
  refine acallN hTT 15 [.tmp 6, .tmp 7] Try.func6 rfl rfl rfl rfl rfl ?_
  refine cSeq ?_
  refine cReg ?_
  refine mV hTT _ rfl ?_
  refine mV hTT _ rfl ?_
  refine mNil ?_
  refine tN ?_
  refine cSeq ?_
  refine cReg ?_
  refine mV hTT _ rfl ?_
  refine mV hTT _ rfl ?_
  refine mV hTT _ rfl ?_
  refine mC0 (aKPoly (K := K) (n := n) (m := m) (k := k) (f := f) (by omega) (by omega) (by omega)) rfl rfl rfl ?_
  refine mV hTT _ rfl ?_
  refine mNil ?_
  refine tN ?_
  refine cSeq ?_
  refine cReg ?_
  refine mV hTT _ rfl ?_
  refine mV hTT _ rfl ?_
  refine mC0 (aQFrom (⟨⟨(cutf k f), fun _ _ _ h => h, (fun i hi => (show cfz (min n m) (cutf k f) i = fzv (cutf k f) i from if_pos hi).symm)⟩, (fun i hi => if_neg (by omega))⟩ : IsP (arow k (min n m) (cutf k f)) k (min n m) (cfz (min n m) (cutf k f))) (M := (max (3 * k) 64)) (by omega) (by omega) (by omega)) rfl rfl rfl ?_
  refine mV hTT _ rfl ?_
  refine mV hTT _ rfl ?_
  refine mNil ?_
  refine tN ?_
  refine cRet ?_
  exact rQ rfl (le_tup (dl DV.same (dl (dle (le_qrow (by omega) (dg_cast _) (fun _ _ => rfl))) dl0)))

theorem wakes_n : dg (mvZ (lst [0, 0, 1]) 1 2 (dg (lst [0, 0, 1]) 3) (dg (lst [0, 0, 1]) 3)) (dg (lst [0, 0, 1]) 3 + 1) = 3 := by decide
theorem wakes_c : ∀ i, i < 3 → lst [1, 4, 4] i = mvZ (lst [0, 0, 1]) 1 2 (dg (lst [0, 0, 1]) 3) (dg (lst [0, 0, 1]) 3) i := by decide
theorem wakes_q : dg (rc (lst [1, 4, 4])) 3 = 3 := (dg_cast (c := lst [1, 4, 4]) 3).trans (by decide)
set_option maxRecDepth 100000 in
set_option maxHeartbeats 4000000 in
theorem aWakes : ACall Try.prog 23 [] (.d (.one (.v (.bool true)))) := by
  refine acallN hTT 19 [.tmp 0] Try.func23 rfl rfl rfl rfl rfl ?_
  refine cSeq ?_
  refine cReg ?_
  refine mV hTT _ rfl ?_
  refine mNil ?_
  refine tN ?_
  refine cSeq ?_
  refine cReg ?_
  refine mB hTT (.d (.one (.row 1 3 (fun i' j' => (([.v (.int .i64 0), .v (.int .i64 0), .v (.int .i64 1)])[i' * 1 + j']?).getD (.v undef))))) rfl ?_
  refine mC0 (aPOf (isi_lit (l := [0, 0, 1]) (n := 3) rfl (fun i hi => match i, hi with | 0, _ => rfl | 1, _ => rfl | 2, _ => rfl)) (by decide) (by omega)) rfl rfl rfl ?_
  refine mC0 (aOf (n := 1) (by decide) (by decide)) rfl rfl rfl ?_
  refine mC0 (aOf (n := 2) (by decide) (by decide)) rfl rfl rfl ?_
  refine mC0 (aPMove (isp (K := 2) (c := (lst [0, 0, 1])) (dg_z lst_z)) (isz 2 1) (isz 2 2) (D := 3) (T := 6010) (M := 24040) (by decide) (dg_le _ _)) rfl rfl rfl ?_
  refine mV hTT _ rfl ?_
  refine mV hTT _ rfl ?_
  refine mV hTT _ rfl ?_
  refine mV hTT _ rfl ?_
  refine mV hTT _ rfl ?_
  refine mNil ?_
  refine tN ?_
  refine cSeq ?_
  refine cReg ?_
  refine mV hTT _ rfl ?_
  refine mV hTT (.d (.one (.v (.bool true)))) rfl ?_
  refine mV hTT _ rfl ?_
  refine mB hTT (.d (.one (.row 1 3 (fun i' j' => (([.v (.int .i64 1), .v (.int .i64 4), .v (.int .i64 4)])[i' * 1 + j']?).getD (.v undef))))) rfl ?_
  refine mC0 (aQOf (isi_lit (l := [1, 4, 4]) (n := 3) rfl (fun i hi => match i, hi with | 0, _ => rfl | 1, _ => rfl | 2, _ => rfl)) (by decide) (by omega)) rfl rfl rfl ?_
  refine mV hTT _ rfl ?_
  refine mC0 (aIs (K := 64) (L := 24040) (n := (dg (rc (lst [1, 4, 4])) 3)) (m := (dg (mvZ (lst [0, 0, 1]) 1 2 (dg (lst [0, 0, 1]) (dg (lst [0, 0, 1]) 3)) (dg (lst [0, 0, 1]) (dg (lst [0, 0, 1]) 3))) (dg (lst [0, 0, 1]) (dg (lst [0, 0, 1]) 3) + 1))) (q := (rc (lst [1, 4, 4]))) (c := (mvZ (lst [0, 0, 1]) 1 2 (dg (lst [0, 0, 1]) (dg (lst [0, 0, 1]) 3)) (dg (lst [0, 0, 1]) (dg (lst [0, 0, 1]) 3)))) (fun _ _ _ h => h) (fun _ _ _ h => h) (wakes_q.trans wakes_n.symm) (fun i hi => congrArg (fun z : Int => (z : Rat)) (wakes_c i (Nat.lt_of_lt_of_le hi (by decide)))) (by decide)) rfl rfl rfl ?_
  refine mV hTT _ rfl ?_
  refine mV hTT _ rfl ?_
  refine mNil ?_
  refine tN ?_
  refine cRet ?_
  exact rQ rfl (AV.le.rfl)

end Go.Proofs.Ytlkdlicbhhackaa

/-
  PLAIN LAW of chapter 5: sums, products, multiples over rationals and over whole numbers. No condition; nothing of the program.
-/
set_option linter.unusedVariables false
set_option linter.unusedSimpArgs false
namespace Go.Proofs.Ytlkdlicbhhackaa
open Go.RowKit

theorem rc_add (a b : Nat → Int) (j : Nat) : faddQ (rc a) (rc b) j = rc (fadd a b) j := (Rat.intCast_add _ _).symm
theorem rc_conv (a b : Nat → Int) (j : Nat) : conv (rc a) (rc b) j = rc (conv a b) j := cv_cast _
theorem rc_scl (a : Nat → Int) (y : Int) (j : Nat) : fsclQ (rc a) (mkR y 1) j = rc (fscl a y) j := by
  rw [mkR_int]; exact (Rat.intCast_mul _ _).symm
theorem len_add {a b : Nat → Int} {p q : Nat} (h1 : ∀ j, p ≤ j → fadd a b j = 0) (h2 : ∀ j, q ≤ j → fadd a b j = 0) : dg (faddQ (rc a) (rc b)) p = dg (fadd a b) q := (dg_fun (rc_add a b) p).trans ((dg_cast p).trans (dg_eq h1 h2))
theorem len_conv {a b : Nat → Int} {p q : Nat} (h1 : ∀ j, p ≤ j → conv a b j = 0) (h2 : ∀ j, q ≤ j → conv a b j = 0) : dg (conv (rc a) (rc b)) p = dg (conv a b) q := (dg_fun (rc_conv a b) p).trans ((dg_cast p).trans (dg_eq h1 h2))
theorem len_scl {a : Nat → Int} {y : Int} {p : Nat} : dg (fsclQ (rc a) (mkR y 1)) p = dg (fscl a y) p := (dg_fun (rc_scl a y) p).trans (dg_cast p)
/-- The bounds in PolyAlls. -/
def KP : Nat → Nat
  | 0 => 64
  | i + 1 => (i * 5 + 1 + 1) * (KP i + 64 + 66) + 70
theorem KP_le : ∀ i, i ≤ 4 → KP i ≤ 5000000 := by decide
theorem app_r {e : TypeId} {K n m : Nat} {ns : Nat → Nat} {fs : Nat → Nat → Bool × List Nat} {el2 : Nat → Nat → Lf} (hm : m = n + 1) (h0 : el2 0 0 = arow K (ns n) (fs n) := by rfl) : AO.le (.row e 1 (n + 1) (appEl n (fun p _ => arow K (ns p) (fs p)) el2)) (.row e 1 m (fun p _ => arow K (ns p) (fs p))) := by
  refine app_el hm (fun i hi j hj B w v hv => hv) fun j hj B w v hv => ?_
  obtain rfl : j = 0 := by omega
  rw [h0] at hv; exact hv
theorem isi_cut {n : Nat} {c : Nat → Int} : IsI (irow n c) n (fun i => if i < n then c i else 0) := by
  refine ⟨row_le fun i hi j hj B w v hv => ?_, fun i hi => if_neg (by omega)⟩
  show LfR B w (.v (.int .i64 (if i < n then c i else 0))) v
  rw [if_pos hi]; exact hv
end Go.Proofs.Ytlkdlicbhhackaa

/-
  PLAIN LAW of chapter 5: the product of polynomials asks for no order, and goes over sums; its leading coefficient. No condition; nothing of the program.
-/
set_option linter.unusedVariables false
set_option linter.unusedSimpArgs false
namespace Go.Proofs.Ytlkdlicbhhackaa
open Go.RowKit

def sm (f : Nat → Int) : Nat → Int
  | 0 => 0
  | m + 1 => sm f m + f m
theorem sm_congr {f g : Nat → Int} : ∀ {m : Nat}, (∀ i, i < m → f i = g i) → sm f m = sm g m
  | 0, _ => rfl
  | m + 1, h => by show sm f m + f m = sm g m + g m; rw [sm_congr (fun i hi => h i (by omega)), h m (by omega)]
theorem sm_add {f g : Nat → Int} : ∀ m, sm (fun i => f i + g i) m = sm f m + sm g m
  | 0 => rfl
  | m + 1 => by show sm _ m + (f m + g m) = (sm f m + f m) + (sm g m + g m); rw [sm_add m]; omega
theorem sm_mul {f : Nat → Int} {q : Int} : ∀ m, sm (fun i => q * f i) m = q * sm f m
  | 0 => (Int.mul_zero q).symm
  | m + 1 => by show sm _ m + q * f m = q * (sm f m + f m); rw [sm_mul m, Int.mul_add]
theorem sm_mul_r {f : Nat → Int} {q : Int} : ∀ m, sm (fun i => f i * q) m = sm f m * q
  | 0 => (Int.zero_mul q).symm
  | m + 1 => by show sm _ m + f m * q = (sm f m + f m) * q; rw [sm_mul_r m, Int.add_mul]
theorem sm_first {f : Nat → Int} : ∀ m, sm f (m + 1) = f 0 + sm (fun i => f (i + 1)) m
  | 0 => by show (0 : Int) + f 0 = f 0 + 0; omega
  | m + 1 => by
    have h := sm_first (f := f) m
    show sm f (m + 1) + f (m + 1) = f 0 + (sm (fun i => f (i + 1)) m + f (m + 1))
    omega
theorem sm_rev {f : Nat → Int} : ∀ n, sm f (n + 1) = sm (fun i => f (n - i)) (n + 1)
  | 0 => rfl
  | n + 1 => by
    rw [sm_first (f := fun i => f (n + 1 - i)) (n + 1)]
    show sm f (n + 1) + f (n + 1) = f (n + 1) + sm (fun i => f (n + 1 - (i + 1))) (n + 1)
    rw [sm_rev n, Int.add_comm]
    congr 1
    exact sm_congr fun i _ => by congr 1; omega
theorem cv_sm {a b : Nat → Int} {j : Nat} : ∀ {m : Nat}, m ≤ j + 1 → cv a b m j = sm (fun i => a i * b (j - i)) m
  | 0, _ => rfl
  | m + 1, h => by
    show cv a b m j + (if m ≤ j then a m * b (j - m) else 0) = _
    rw [cv_sm (by omega), if_pos (by omega)]; rfl
theorem conv_sm (a b : Nat → Int) (j : Nat) : conv a b j = sm (fun i => a i * b (j - i)) (j + 1) := cv_sm (Nat.le_refl _)
theorem conv_comm (a b : Nat → Int) (j : Nat) : conv a b j = conv b a j := by
  rw [conv_sm, conv_sm, sm_rev]
  exact sm_congr fun i hi => by rw [show j - (j - i) = i by omega, Int.mul_comm]
theorem sm_tri {G : Nat → Nat → Int} : ∀ n, sm (fun i => sm (fun k => G k (i - k)) (i + 1)) (n + 1) = sm (fun k => sm (fun l => G k l) (n - k + 1)) (n + 1)
  | 0 => rfl
  | n + 1 => by
    have e : sm (fun k => sm (fun l => G k l) (n + 1 - k + 1)) (n + 1) = sm (fun k => sm (fun l => G k l) (n - k + 1)) (n + 1) + sm (fun k => G k (n + 1 - k)) (n + 1) := by
      rw [← sm_add]
      refine sm_congr fun k hk => ?_
      rw [show n + 1 - k + 1 = (n - k + 1) + 1 by omega]
      show sm (fun l => G k l) (n - k + 1) + G k (n - k + 1) = _
      rw [show n - k + 1 = n + 1 - k by omega]
    show sm (fun i => sm (fun k => G k (i - k)) (i + 1)) (n + 1) + (sm (fun k => G k (n + 1 - k)) (n + 1) + G (n + 1) (n + 1 - (n + 1))) = sm (fun k => sm (fun l => G k l) (n + 1 - k + 1)) (n + 1) + sm (fun l => G (n + 1) l) (n + 1 - (n + 1) + 1)
    rw [e, sm_tri n, Nat.sub_self]
    show _ = _ + (0 + G (n + 1) 0)
    omega
theorem conv_assoc (a b c : Nat → Int) (j : Nat) : conv (conv a b) c j = conv a (conv b c) j := by
  rw [conv_sm, conv_sm]
  have h1 : sm (fun i => conv a b i * c (j - i)) (j + 1) = sm (fun i => sm (fun k => (fun k l => a k * b l * c (j - (k + l))) k (i - k)) (i + 1)) (j + 1) := by
    refine sm_congr fun i hi => ?_
    rw [conv_sm, ← sm_mul_r]
    exact sm_congr fun k hk => by show _ = a k * b (i - k) * c (j - (k + (i - k))); rw [show k + (i - k) = i by omega]
  have h2 : sm (fun i => a i * conv b c (j - i)) (j + 1) = sm (fun k => sm (fun l => (fun k l => a k * b l * c (j - (k + l))) k l) (j - k + 1)) (j + 1) := by
    refine sm_congr fun k hk => ?_
    rw [conv_sm, ← sm_mul]
    exact sm_congr fun l hl => by show _ = a k * b l * c (j - (k + l)); rw [show j - k - l = j - (k + l) by omega, Int.mul_assoc]
  rw [h1, h2]
  exact sm_tri (G := fun k l => a k * b l * c (j - (k + l))) j
theorem conv_add (a b c : Nat → Int) (j : Nat) : conv a (fadd b c) j = fadd (conv a b) (conv a c) j := by
  show _ = conv a b j + conv a c j
  rw [conv_sm, conv_sm, conv_sm, ← sm_add]
  exact sm_congr fun i _ => by show a i * (b (j - i) + c (j - i)) = _; rw [Int.mul_add]
theorem conv_fun {a b a' b' : Nat → Int} (h : ∀ i, a i = a' i) (k : ∀ i, b i = b' i) (j : Nat) : conv a b j = conv a' b' j := by rw [funext h, funext k]
theorem fadd_fun {a b a' b' : Nat → Int} (h : ∀ i, a i = a' i) (k : ∀ i, b i = b' i) (j : Nat) : fadd a b j = fadd a' b' j := by rw [funext h, funext k]
theorem conv_one (a : Nat → Int) (j : Nat) : conv (lst [1]) a j = a j := by
  rw [conv_sm, sm_first]
  show 1 * a (j - 0) + sm (fun i => lst [1] (i + 1) * a (j - (i + 1))) j = a j
  have : sm (fun i => lst [1] (i + 1) * a (j - (i + 1))) j = sm (fun i => 0 * a (j - (i + 1))) j := sm_congr fun i _ => by rw [lst_z (l := [1]) (i + 1) (by simp)]
  rw [this, sm_mul (q := 0) (f := fun i => a (j - (i + 1)))]; simp
/-- The leading coefficient of a product. -/
theorem conv_top {a b : Nat → Int} {n m : Nat} (ha : ∀ i, n ≤ i → a i = 0) (hb : ∀ i, m ≤ i → b i = 0) (hn : n ≠ 0) (hm : m ≠ 0) : conv a b (n + m - 2) = a (n - 1) * b (m - 1) := by
  obtain ⟨n, rfl⟩ := Nat.exists_eq_succ_of_ne_zero hn
  obtain ⟨m, rfl⟩ := Nat.exists_eq_succ_of_ne_zero hm
  rw [← cv_conv (n := n + 1) ha]
  show cv a b n (n.succ + m.succ - 2) + (if n ≤ n.succ + m.succ - 2 then a n * b (n.succ + m.succ - 2 - n) else 0) = a n * b m
  rw [conv_z (fun i hi _ => by rw [hb (n.succ + m.succ - 2 - i) (by omega), Int.mul_zero]), if_pos (by omega), show n.succ + m.succ - 2 - n = m by omega, Int.zero_add]
theorem dg_conv {a b : Nat → Int} {n m : Nat} (hn : n ≠ 0) (hm : m ≠ 0) (ha : ∀ i, n ≤ i → a i = 0) (hb : ∀ i, m ≤ i → b i = 0) (ha0 : a (n - 1) ≠ 0) (hb0 : b (m - 1) ≠ 0) {p : Nat} (hp : ∀ i, p ≤ i → conv a b i = 0) : dg (conv a b) p = n + m - 1 :=
  dg_uniq dg_or (dg_z hp) (Or.inr (by rw [show n + m - 1 - 1 = n + m - 2 by omega, conv_top ha hb hn hm]; exact Int.mul_ne_zero ha0 hb0)) (fun i hi => conv_beyond ha hb (by omega))
def f3 {α : Type} (x y z : α) : Nat → α := fun p => if p = 0 then x else if p = 1 then y else z
theorem isps3 {K n0 n1 n2 : Nat} {g0 g1 g2 : Nat → Bool × List Nat} {el : Nat → Nat → Lf} (h0 : el 0 0 = arow K n0 g0 := by rfl) (h1 : el 1 0 = arow K n1 g1 := by rfl) (h2 : el 2 0 = arow K n2 g2 := by rfl) : ∀ B w v, LfR B w (.row 1 3 el) v → LfR B w (prows K 3 (f3 n0 n1 n2) (f3 g0 g1 g2)) v := by
  refine row_le fun i hi j hj B w v hv => ?_
  obtain rfl : j = 0 := by omega
  match i, hi with
  | 0, _ => rw [h0] at hv; exact hv
  | 1, _ => rw [h1] at hv; exact hv
  | 2, _ => rw [h2] at hv; exact hv
theorem nil_zn {K : Nat} {z : Int} (h : z = 0) : AV.le (.d (.agg [.v (.bool false), .v (.slice none 0 0)])) (.d (.agg (zn K z))) := by subst h; exact le_agg fun B w cs h => zn_mono (Nat.zero_le _) _ _ _ (nil_ls h)
end Go.Proofs.Ytlkdlicbhhackaa

