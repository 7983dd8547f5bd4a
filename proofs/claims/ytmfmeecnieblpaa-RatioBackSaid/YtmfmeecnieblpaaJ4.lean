/-
  THE PLAIN RECKONING: small numbers, quotients, divisors, whether two are one; rationals.
-/
import Derived.Test.YtmfmeecnieblpaaJ3
import Derived.Laws.BitsLemmas
set_option linter.unusedVariables false
set_option linter.unusedSimpArgs false
namespace Go.Proofs.Ytmfmeecnieblpaa
open Go.RowKit

def del (xs : List Nat) : Nat → Nat → Lf := fun i _ => .v (.int .i64 ((xs.getD i 0 : Nat) : Int))
theorem digs_small {N : Nat} (h : N ≤ 9223372036854775808) : (digs4 N).length ≤ 5 := digs4_le (Nat.lt_of_le_of_lt h (by decide))
theorem digs_step {ds : List Nat} {R N : Nat} (hR : 0 < R) (h : ds ++ digs4 R = digs4 N) : (ds ++ [R % B4]) ++ digs4 (R / B4) = digs4 N := by
  rw [← h, digs4_pos (show R ≠ 0 by omega), List.append_assoc]; rfl
theorem digs_end {ds : List Nat} {R N : Nat} (hR : ¬ 0 < R) (h : ds ++ digs4 R = digs4 N) : ds = digs4 N := by
  obtain rfl : R = 0 := by omega
  rw [← h, show digs4 0 = [] from rfl, List.append_nil]
theorem del_app {e : TypeId} {ds : List Nat} {x m : Nat} {el2 : Nat → Nat → Lf} (hm : m = ds.length + 1) (h0 : el2 0 0 = .v (.int .i64 (x : Int)) := by rfl) : AO.le (.row e 1 (ds.length + 1) (appEl ds.length (del ds) el2)) (.row e 1 m (del (ds ++ [x]))) := by
  refine app_el hm (fun i hi j hj B w v hv => ?_) (fun j hj B w v hv => ?_)
  · unfold del at *; rw [List.getD_eq_getElem?_getD, List.getElem?_append_left hi, ← List.getD_eq_getElem?_getD]; exact hv
  · obtain rfl : j = 0 := by omega
    rw [h0] at hv
    unfold del; rw [List.getD_eq_getElem?_getD, List.getElem?_append_right (Nat.le_refl _), Nat.sub_self]; exact hv
/-- Cells one by one are a digit row. -/
theorem isd_row {n K N : Nat} {xs : List Nat} (hn : xs.length = n) (hx : xs = digs4 N) (hK : n ≤ K) : IsD (.row 1 n (del xs)) K N := by
  rintro B w c ⟨a, cap, rfl, h1, h2, h3⟩
  subst hn
  unfold dn
  rw [← hx]
  refine dr_R ⟨rfl, h1, h2, by rw [hx]; exact digs4_lt N, ?_⟩ hK (fun x hx' hne hb => ?_)
  · rcases Nat.eq_zero_or_pos xs.length with h0 | h0
    · have : xs = [] := List.eq_nil_of_length_eq_zero h0
      rw [this]; exact Or.inl rfl
    · obtain ⟨b, off, rfl, _, _, _⟩ := h3 0 h0
      refine Or.inr ⟨b, off, rfl, fun j hj => ?_⟩
      have hj' : j < xs.length := by simpa [ints] using hj
      obtain ⟨b', off', he', _, _, h4⟩ := h3 j hj'
      cases he'
      obtain ⟨x, hx1, hx2⟩ := h4 0 (by omega)
      obtain ⟨rfl, _⟩ := hx2
      rw [Nat.mul_one, Nat.add_zero] at hx1
      rw [hx1, ints_get]
      simp [hj']
  · obtain ⟨b, off, he', hb', _, _⟩ := h3 0 (List.length_pos_iff.2 hne)
    rw [he'] at hx'
    cases hx'
    exact hb' hb
theorem digs1 {m : Nat} : (digs4 m).length = 1 ∧ (digs4 m).getD 0 0 = 1 ↔ m = 1 := by
  constructor
  · rintro ⟨h1, h2⟩
    have h3 := val4_digs4 m
    match h : digs4 m, h1 with
    | [x], _ =>
      rw [h] at h2 h3
      simp at h2
      subst h2
      rw [← h3]; rfl
  · rintro rfl; rw [digs4_pos (by decide)]; exact ⟨rfl, rfl⟩
theorem quo_zv {x y : Int} (hd : y ∣ x) : zv (decide (x < 0) != decide (y < 0)) (x.natAbs / y.natAbs) = x / y := by
  obtain ⟨q, rfl⟩ := hd
  rcases Int.lt_trichotomy y 0 with hy | rfl | hy
  · rw [Int.natAbs_mul, Nat.mul_div_cancel_left _ (by omega), Int.mul_ediv_cancel_left _ (by omega)]
    rcases Int.lt_trichotomy q 0 with hq | rfl | hq
    · have := Int.mul_pos_of_neg_of_neg hy hq
      simp [zv, hy, show ¬ y * q < 0 from by omega]; omega
    · simp [zv]
    · have := Int.mul_neg_of_neg_of_pos hy hq
      simp [zv, hy, this]; omega
  · simp [zv]
  · rw [Int.natAbs_mul, Nat.mul_div_cancel_left _ (by omega), Int.mul_ediv_cancel_left _ (by omega)]
    rcases Int.lt_trichotomy q 0 with hq | rfl | hq
    · have := Int.mul_neg_of_pos_of_neg hy hq
      simp [zv, show ¬ y < 0 from by omega, this]; omega
    · simp [zv]
    · have := Int.mul_pos hy hq
      simp [zv, show ¬ y < 0 from by omega, show ¬ y * q < 0 from by omega]; omega

/-- A rational of the program, in any form; normal. -/
def IsT (ls : List Lf) (K : Nat) (n d : Int) : Prop := ∃ s xs t ys, (∀ B w cs, LsR B w ls cs → LsR B w ([.v (.bool s), lr K xs] ++ [.v (.bool t), lr K ys]) cs) ∧ zv s (val xs) = n ∧ zv t (val ys) = d
def tn (K : Nat) (q : Rat) : List Lf := zn K q.num ++ zn K (q.den : Int)
def IsTN (ls : List Lf) (K : Nat) (q : Rat) : Prop := ∀ B w cs, LsR B w ls cs → LsR B w (tn K q) cs
def cmpQ (x y : Rat) : Int := cmpZ (x.num * y.den) (y.num * x.den)
/-- A fraction (over 0: over 1). -/
def mkR (n d : Int) : Rat := Rat.divInt n (if d = 0 then 1 else d)
theorem mkR_pos {n d : Int} (h : 0 < d) : (Rat.divInt n d).num = n / ((Nat.gcd n.natAbs d.natAbs : Nat) : Int) ∧ ((Rat.divInt n d).den : Int) = d / ((Nat.gcd n.natAbs d.natAbs : Nat) : Int) := by
  obtain ⟨k, rfl⟩ := Int.eq_ofNat_of_zero_le (Int.le_of_lt h)
  have hk : k ≠ 0 := by rintro rfl; exact absurd h (by decide)
  rw [Rat.divInt_ofNat, ← Rat.normalize_eq_mkRat hk, Rat.normalize_eq hk]
  exact ⟨rfl, Int.natCast_ediv _ _⟩
theorem mkR_one (n : Int) : (Rat.divInt n 1).num = n ∧ ((Rat.divInt n 1).den : Int) = 1 := by
  have h := mkR_pos (n := n) (d := 1) (by decide)
  rw [show (Int.natAbs 1) = 1 from rfl, Nat.gcd_one_right] at h
  refine ⟨h.1.trans (Int.ediv_one n), h.2⟩
theorem gcd_dvd_l (n d : Int) : ((Nat.gcd n.natAbs d.natAbs : Nat) : Int) ∣ n := Int.dvd_natAbs.1 (Int.natCast_dvd_natCast.2 (Nat.gcd_dvd_left _ _))
theorem gcd_dvd_r (n d : Int) : ((Nat.gcd n.natAbs d.natAbs : Nat) : Int) ∣ d := Int.dvd_natAbs.1 (Int.natCast_dvd_natCast.2 (Nat.gcd_dvd_right _ _))
theorem gcd_nz {n d : Int} (h : d ≠ 0) : ((Nat.gcd n.natAbs d.natAbs : Nat) : Int) ≠ 0 := by
  have : Nat.gcd n.natAbs d.natAbs ≠ 0 := fun e => by
    have := (Nat.gcd_eq_zero_iff.1 e).2; omega
  omega
theorem den_ne (a : Rat) : (a.den : Int) ≠ 0 := by have := a.den_nz; omega
theorem mkR_ne {n d : Int} (h : d ≠ 0) : mkR n d = Rat.divInt n d := by unfold mkR; rw [if_neg h]
theorem mkR_add (a b : Rat) : mkR (a.num * b.den + b.num * a.den) (a.den * b.den) = a + b := by
  rw [mkR_ne (Int.mul_ne_zero (den_ne a) (den_ne b)), ← Rat.divInt_add_divInt _ _ (den_ne a) (den_ne b), Rat.num_divInt_den, Rat.num_divInt_den]
theorem mkR_mul (a b : Rat) : mkR (a.num * b.num) (a.den * b.den) = a * b := by
  rw [mkR_ne (Int.mul_ne_zero (den_ne a) (den_ne b)), ← Rat.divInt_mul_divInt, Rat.num_divInt_den, Rat.num_divInt_den]
theorem mkR_quo (a b : Rat) (h : b ≠ 0) : mkR (a.num * b.den) (a.den * b.num) = a / b := by
  have hb : b.num ≠ 0 := fun e => h (Rat.num_eq_zero.1 e)
  rw [mkR_ne (Int.mul_ne_zero (den_ne a) hb), ← Rat.divInt_mul_divInt, Rat.num_divInt_den, Rat.div_def, Rat.inv_def]
theorem mkR_int (n : Int) : mkR n 1 = (n : Rat) := by
  rw [mkR_ne (by decide)]
  exact Rat.ext (by rw [(mkR_one n).1, Rat.num_intCast]) (by have := (mkR_one n).2; rw [Rat.den_intCast]; omega)
set_option maxRecDepth 100000 in
set_option maxHeartbeats 4000000 in
theorem aROf {n : Int} (h1 : -9223372036854775808 ≤ n := by decide) (h2 : n ≤ 9223372036854775807 := by decide) : ACall Try.prog 22 [.one (.v (.int .i64 n))] (.d (.agg (rn 64 n))) := by
  refine acallN hTT 26 [.cell 2 34] Try.func22 rfl rfl rfl rfl rfl ?_
  refine cSeq ?_
  refine cReg ?_
  refine mN hTT (.box 34 ([.v (.slice none 0 0), .v (.bool false)])) rfl rfl rfl ?_
  refine mNil ?_
  refine tN ?_
  refine cSeq ?_
  refine cSeq ?_
  refine cReg ?_
  refine mV hTT _ rfl ?_
  refine mV hTT (.d (.one (.v (.bool (n == (-9223372036854775808)))))) rfl ?_
  refine mNil ?_
  refine tN ?_
  refine cCond rfl (fun hc1 => ?_) (fun hc1 => ?_)
  · skip
    refine cSeq ?_
    have hn : n = -9223372036854775808 := eq_of_beq hc1
    subst hn
    refine cReg ?_
    refine mC0 (aNPow (n := 63)) rfl rfl rfl ?_
    refine mC0 (aRMade (K := 64) (m := (2 ^ 63)) (neg := true) rfl) rfl rfl rfl ?_
    refine mS hTT 2 (.box 34 (rn 64 (zv true (2 ^ 63)))) rfl ?_
    refine mNil ?_
    refine tN ?_
    refine cRet ?_
    refine tR ?_
    exact rQ rfl (le_rn (by decide) (by decide))
  · skip
    refine cSkip ?_
    refine tN ?_
    refine cSeq ?_
    have hn : n ≠ -9223372036854775808 := fun e => by have h0 := hc1; rw [e] at h0; exact absurd h0 (by decide)
    have hN : n.natAbs ≤ 9223372036854775808 := by omega
    refine cReg ?_
    refine mV hTT _ rfl ?_
    refine mV hTT (.d (.one (.v (.bool (decide (n < 0)))))) rfl ?_
    refine mV hTT _ rfl ?_
    refine mNil ?_
    refine tN ?_
    refine cSeq ?_
    refine cSeq ?_
    refine cReg ?_
    refine mV hTT _ rfl ?_
    refine mNil ?_
    refine tN ?_
    refine cCond rfl (fun hc2 => ?_) (fun hc2 => ?_)
    · skip
      refine cReg ?_
      refine mV hTT _ rfl ?_
      refine mV hTT (.d (.one (.v (.int .i64 (n.natAbs : Int))))) (evi (show IntKind.i64.wrap (0 - n) = _ from by have h0 := of_decide_eq_true hc2; rw [wr64]; omega)) ?_
      refine mV hTT _ rfl ?_
      refine mNil ?_
      refine tN ?_
      refine cSeq ?_
      refine cReg ?_
      refine mV hTT _ rfl ?_
      refine mNil ?_
      refine tN ?_
      refine cSeq ?_
      refine cBlock ?_
      refine AW.wk (wkNil 4 4 3 1 (fun _ _ => .v undef) rfl rfl) ?_
      refine cLoop (ι := List Nat × Nat) (fun (p : List Nat × Nat) => match p with | (ds, R) => ⟨26, [(0, .d (.one (.v (.int .i64 ((R : Nat) : Int))))), (3, .d (.one (.v (.bool (decide (n < 0)))))), (2, .ptr 2 0), (4, .own 4)], [(2, .box 34 ([.v (.slice none 0 0), .v (.bool false)])), (4, .row 3 1 ds.length (del ds))]⟩) (fun (p : List Nat × Nat) => match p with | (ds, R) => ds ++ digs4 R = digs4 n.natAbs ∧ R ≤ 9223372036854775808 - 1) (fun (p : List Nat × Nat) => match p with | (ds, R) => R) ([], n.natAbs) (⟨rfl, by omega⟩) (wk (sl := [(0, .d (.one (.v (.int .i64 ((n.natAbs : Nat) : Int))))), (3, .d (.one (.v (.bool (decide (n < 0)))))), (2, .ptr 2 0), (4, .own 4)]) (hp := [(2, .box 34 ([.v (.slice none 0 0), .v (.bool false)])), (4, .row 3 1 (([]).length) (del ([])))]) rfl ⟨hs' rfl (le_int (rfl)), hs rfl, hs rfl, hs rfl, trivial⟩ ⟨ho rfl, ho' rfl (leo_row0), trivial⟩ rfl) ?_
      rintro ⟨ds, R⟩ hI
      obtain ⟨hd, hR9⟩ : ds ++ digs4 R = digs4 n.natAbs ∧ R ≤ 9223372036854775808 - 1 := hI
      show AW Try.prog _ _ ⟨26, [(0, .d (.one (.v (.int .i64 ((R : Nat) : Int))))), (3, .d (.one (.v (.bool (decide (n < 0)))))), (2, .ptr 2 0), (4, .own 4)], [(2, .box 34 ([.v (.slice none 0 0), .v (.bool false)])), (4, .row 3 1 ds.length (del ds))]⟩
      refine cSeq ?_
      refine cSeq ?_
      refine cReg ?_
      refine mV hTT _ rfl ?_
      refine mV hTT (.d (.one (.v (.bool (decide (((R : Nat) : Int) > 0)))))) rfl ?_
      refine mNil ?_
      refine tN ?_
      refine cCond rfl (fun hc3 => ?_) (fun hc3 => ?_)
      · skip
        refine cSkip ?_
        refine tN ?_
        refine cBlock ?_
        refine cSeq ?_
        have hR : 0 < R := by have h0 := of_decide_eq_true hc3; omega
        have hlen : ds.length ≤ 5 := by have h0 := digs_small hN; rw [← hd, List.length_append] at h0; omega
        refine cReg ?_
        refine mV hTT _ rfl ?_
        refine mV hTT _ rfl ?_
        refine mV hTT (.d (.one (.v (.int .i64 ((R % 10000 : Nat) : Int))))) rfl ?_
        refine mB hTT (.d (.one (.row 1 1 (fun i' j' => (([.v (.int .i64 ((R % 10000 : Nat) : Int))])[i' * 1 + j']?).getD (.v undef))))) rfl ?_
        refine mA hTT (id := 4) (n := ds.length) (m := 1) (el := (del ds)) (el2 := (fun i' j' => (([.v (.int .i64 ((R % 10000 : Nat) : Int))])[i' * 1 + j']?).getD (.v undef))) rfl rfl rfl (by show (ds.length + 1) * 8 ≤ 140737488355328; omega) (by omega) rfl rfl rfl rfl rfl rfl rfl rfl rfl rfl ?_
        refine mV hTT _ rfl ?_
        refine mNil ?_
        refine tN ?_
        refine cReg ?_
        refine mV hTT _ rfl ?_
        refine mV hTT (.d (.one (.v (.int .i64 (IntKind.i64.wrap (Int.tdiv (R : Int) 10000)))))) rfl ?_
        refine mV hTT _ rfl ?_
        refine mNil ?_
        refine bN ?_
        exact ⟨((ds ++ [R % 10000]), (R / 10000)), ⟨digs_step hR hd, by omega⟩, by show R / 10000 < R; omega, wk (sl := [(0, .d (.one (.v (.int .i64 (((R / 10000) : Nat) : Int))))), (3, .d (.one (.v (.bool (decide (n < 0)))))), (2, .ptr 2 0), (4, .own 4)]) (hp := [(2, .box 34 ([.v (.slice none 0 0), .v (.bool false)])), (4, .row 3 1 ((ds ++ [R % 10000]).length) (del (ds ++ [R % 10000])))]) rfl ⟨hs' rfl (le_int (show IntKind.i64.wrap (Int.tdiv (R : Int) 10000) = _ from by rw [show Int.tdiv (R : Int) 10000 = ((R / 10000 : Nat) : Int) from rfl]; exact wr64 (by omega) (by omega))), hs rfl, hs rfl, hs rfl, trivial⟩ ⟨ho rfl, ho' rfl (del_app (by simp)), trivial⟩ rfl⟩
      · skip
        refine cExit ?_
        refine tE ?_
        refine tE ?_
        refine bE ?_
        refine tN ?_
        refine cSeq ?_
        have hde : ds = digs4 n.natAbs := digs_end (by have h0 := of_decide_eq_false hc3; omega) hd
        refine AW.wk (wkRow 4 rfl) ?_
        refine cView 4 (.d (.one (dn 5 n.natAbs))) rfl (le_one (isd_row rfl hde (by rw [hde]; exact digs_small hN))) ?_
        refine cReg ?_
        refine mV hTT _ rfl ?_
        refine mV hTT _ rfl ?_
        refine mC0 (aRMade (K := 5) (m := n.natAbs) (neg := decide (n < 0)) rfl) rfl rfl rfl ?_
        refine mS hTT 2 (.box 34 (rn 5 (zv (decide (n < 0)) n.natAbs))) rfl ?_
        refine mNil ?_
        refine tN ?_
        refine cRet ?_
        exact rQ rfl (le_rn (by decide) (zv_natAbs n))
    · skip
      refine cSkip ?_
      refine tN ?_
      refine cSeq ?_
      refine cReg ?_
      refine mV hTT _ rfl ?_
      refine mNil ?_
      refine tN ?_
      refine cSeq ?_
      refine cBlock ?_
      refine AW.wk (wkNil 4 4 3 1 (fun _ _ => .v undef) rfl rfl) ?_
      refine cLoop (ι := List Nat × Nat) (fun (p : List Nat × Nat) => match p with | (ds, R) => ⟨26, [(0, .d (.one (.v (.int .i64 ((R : Nat) : Int))))), (3, .d (.one (.v (.bool (decide (n < 0)))))), (2, .ptr 2 0), (4, .own 4)], [(2, .box 34 ([.v (.slice none 0 0), .v (.bool false)])), (4, .row 3 1 ds.length (del ds))]⟩) (fun (p : List Nat × Nat) => match p with | (ds, R) => ds ++ digs4 R = digs4 n.natAbs ∧ R ≤ 9223372036854775808 - 1) (fun (p : List Nat × Nat) => match p with | (ds, R) => R) ([], n.natAbs) (⟨rfl, by omega⟩) (wk (sl := [(0, .d (.one (.v (.int .i64 ((n.natAbs : Nat) : Int))))), (3, .d (.one (.v (.bool (decide (n < 0)))))), (2, .ptr 2 0), (4, .own 4)]) (hp := [(2, .box 34 ([.v (.slice none 0 0), .v (.bool false)])), (4, .row 3 1 (([]).length) (del ([])))]) rfl ⟨hs' rfl (le_int (by have h0 := of_decide_eq_false hc2; omega)), hs rfl, hs rfl, hs rfl, trivial⟩ ⟨ho rfl, ho' rfl (leo_row0), trivial⟩ rfl) ?_
      rintro ⟨ds, R⟩ hI
      obtain ⟨hd, hR9⟩ : ds ++ digs4 R = digs4 n.natAbs ∧ R ≤ 9223372036854775808 - 1 := hI
      show AW Try.prog _ _ ⟨26, [(0, .d (.one (.v (.int .i64 ((R : Nat) : Int))))), (3, .d (.one (.v (.bool (decide (n < 0)))))), (2, .ptr 2 0), (4, .own 4)], [(2, .box 34 ([.v (.slice none 0 0), .v (.bool false)])), (4, .row 3 1 ds.length (del ds))]⟩
      refine cSeq ?_
      refine cSeq ?_
      refine cReg ?_
      refine mV hTT _ rfl ?_
      refine mV hTT (.d (.one (.v (.bool (decide (((R : Nat) : Int) > 0)))))) rfl ?_
      refine mNil ?_
      refine tN ?_
      refine cCond rfl (fun hc4 => ?_) (fun hc4 => ?_)
      · skip
        refine cSkip ?_
        refine tN ?_
        refine cBlock ?_
        refine cSeq ?_
        have hR : 0 < R := by have h0 := of_decide_eq_true hc4; omega
        have hlen : ds.length ≤ 5 := by have h0 := digs_small hN; rw [← hd, List.length_append] at h0; omega
        refine cReg ?_
        refine mV hTT _ rfl ?_
        refine mV hTT _ rfl ?_
        refine mV hTT (.d (.one (.v (.int .i64 ((R % 10000 : Nat) : Int))))) rfl ?_
        refine mB hTT (.d (.one (.row 1 1 (fun i' j' => (([.v (.int .i64 ((R % 10000 : Nat) : Int))])[i' * 1 + j']?).getD (.v undef))))) rfl ?_
        refine mA hTT (id := 4) (n := ds.length) (m := 1) (el := (del ds)) (el2 := (fun i' j' => (([.v (.int .i64 ((R % 10000 : Nat) : Int))])[i' * 1 + j']?).getD (.v undef))) rfl rfl rfl (by show (ds.length + 1) * 8 ≤ 140737488355328; omega) (by omega) rfl rfl rfl rfl rfl rfl rfl rfl rfl rfl ?_
        refine mV hTT _ rfl ?_
        refine mNil ?_
        refine tN ?_
        refine cReg ?_
        refine mV hTT _ rfl ?_
        refine mV hTT (.d (.one (.v (.int .i64 (IntKind.i64.wrap (Int.tdiv (R : Int) 10000)))))) rfl ?_
        refine mV hTT _ rfl ?_
        refine mNil ?_
        refine bN ?_
        exact ⟨((ds ++ [R % 10000]), (R / 10000)), ⟨digs_step hR hd, by omega⟩, by show R / 10000 < R; omega, wk (sl := [(0, .d (.one (.v (.int .i64 (((R / 10000) : Nat) : Int))))), (3, .d (.one (.v (.bool (decide (n < 0)))))), (2, .ptr 2 0), (4, .own 4)]) (hp := [(2, .box 34 ([.v (.slice none 0 0), .v (.bool false)])), (4, .row 3 1 ((ds ++ [R % 10000]).length) (del (ds ++ [R % 10000])))]) rfl ⟨hs' rfl (le_int (show IntKind.i64.wrap (Int.tdiv (R : Int) 10000) = _ from by rw [show Int.tdiv (R : Int) 10000 = ((R / 10000 : Nat) : Int) from rfl]; exact wr64 (by omega) (by omega))), hs rfl, hs rfl, hs rfl, trivial⟩ ⟨ho rfl, ho' rfl (del_app (by simp)), trivial⟩ rfl⟩
      · skip
        refine cExit ?_
        refine tE ?_
        refine tE ?_
        refine bE ?_
        refine tN ?_
        refine cSeq ?_
        have hde : ds = digs4 n.natAbs := digs_end (by have h0 := of_decide_eq_false hc4; omega) hd
        refine AW.wk (wkRow 4 rfl) ?_
        refine cView 4 (.d (.one (dn 5 n.natAbs))) rfl (le_one (isd_row rfl hde (by rw [hde]; exact digs_small hN))) ?_
        refine cReg ?_
        refine mV hTT _ rfl ?_
        refine mV hTT _ rfl ?_
        refine mC0 (aRMade (K := 5) (m := n.natAbs) (neg := decide (n < 0)) rfl) rfl rfl rfl ?_
        refine mS hTT 2 (.box 34 (rn 5 (zv (decide (n < 0)) n.natAbs))) rfl ?_
        refine mNil ?_
        refine tN ?_
        refine cRet ?_
        exact rQ rfl (le_rn (by decide) (zv_natAbs n))

set_option maxRecDepth 100000 in
set_option maxHeartbeats 4000000 in
theorem aRQuo {a b : List Lf} {K L M : Nat} {x y : Int} (ha : IsR a K x) (hb : IsR b L y) (hy : y ≠ 0) (hd : y ∣ x) (hM : K ≤ M := by decide) (hK : K ≤ 100000000 := by decide) (hL : L ≤ 100000000 := by decide) : ACall Try.prog 79 [.agg a, .agg b] (.d (.agg (rn M (x / y)))) := by
  refine ACall.le (dl (DV.g ha) (dl (DV.g hb) dl0)) AV.le.rfl ?_
  refine acallN hTT 22 [.cell 4 34] Try.func79 rfl rfl rfl rfl rfl ?_
  refine cSeq ?_
  refine cReg ?_
  refine mN hTT (.box 34 (rn K x)) rfl rfl rfl ?_
  refine mN hTT (.box 34 (rn L y)) rfl rfl rfl ?_
  refine mN hTT (.box 34 ([.v (.slice none 0 0), .v (.bool false)])) rfl rfl rfl ?_
  refine mNil ?_
  refine tN ?_
  refine cSeq ?_
  refine cReg ?_
  refine mV hTT (.ptr 2 0) rfl ?_
  refine mV hTT (.d (.one (dn K x.natAbs))) rfl ?_
  refine mV hTT (.ptr 3 0) rfl ?_
  refine mV hTT (.d (.one (dn L y.natAbs))) rfl ?_
  refine mC0 (aNDiv (isd K x.natAbs) (isd L y.natAbs) (by omega) (by omega) (by omega)) rfl rfl rfl ?_
  refine mV hTT _ rfl ?_
  refine mV hTT _ rfl ?_
  refine mV hTT _ rfl ?_
  refine mV hTT _ rfl ?_
  refine mV hTT _ rfl ?_
  refine mNil ?_
  refine tN ?_
  refine cSeq ?_
  refine cReg ?_
  refine mV hTT _ rfl ?_
  refine mV hTT (.ptr 2 1) rfl ?_
  refine mV hTT (.d (.one (.v (.bool (decide (x < 0)))))) rfl ?_
  refine mV hTT (.ptr 3 1) rfl ?_
  refine mV hTT (.d (.one (.v (.bool (decide (y < 0)))))) rfl ?_
  refine mV hTT (.d (.one (.v (.bool (!((decide (x < 0)) == (decide (y < 0)))))))) rfl ?_
  refine mC0 (aRMade (K := K) (m := (x.natAbs / y.natAbs)) (neg := !((decide (x < 0)) == (decide (y < 0)))) rfl) rfl rfl rfl ?_
  refine mS hTT 4 (.box 34 (rn K (zv (!((decide (x < 0)) == (decide (y < 0)))) (x.natAbs / y.natAbs)))) rfl ?_
  refine mNil ?_
  refine tN ?_
  refine cRet ?_
  exact rQ rfl (le_rn hM (quo_zv hd))

set_option maxRecDepth 100000 in
set_option maxHeartbeats 4000000 in
theorem aRGcd {a b : List Lf} {K L M : Nat} {x y : Int} (ha : IsR a K x) (hb : IsR b L y) (hM : max K L ≤ M := by decide) (hMM : M ≤ 100000000 := by decide)  : ACall Try.prog 78 [.agg a, .agg b] (.d (.agg (rn M ((Nat.gcd x.natAbs y.natAbs : Nat) : Int)))) := by
  refine ACall.le (dl (DV.g ha) (dl (DV.g hb) dl0)) AV.le.rfl ?_
  refine acallN hTT 26 [.cell 4 34] Try.func78 rfl rfl rfl rfl rfl ?_
  refine cSeq ?_
  refine cReg ?_
  refine mN hTT (.box 34 (rn K x)) rfl rfl rfl ?_
  refine mN hTT (.box 34 (rn L y)) rfl rfl rfl ?_
  refine mN hTT (.box 34 ([.v (.slice none 0 0), .v (.bool false)])) rfl rfl rfl ?_
  refine mNil ?_
  refine tN ?_
  refine cSeq ?_
  refine cDrawK hTT 6 (by kernel_rfl) (by kernel_rfl) (by kernel_rfl) ?_
  refine .cons (OpS.V (.ptr 2 0) rfl) ?_
  refine .cons (OpS.V (.d (.one (dn K x.natAbs))) rfl) ?_
  refine .cons (OpS.V (.ptr 3 0) rfl) ?_
  refine .cons (OpS.V (.d (.one (dn L y.natAbs))) rfl) ?_
  refine .cons (OpS.V _ rfl) ?_
  refine .cons (OpS.V _ rfl) ?_
  refine .nil ?_
  refine mNil ?_
  refine tN ?_
  refine cSeq ?_
  refine cBlock ?_
  refine cLoop (ι := Nat × Nat) (fun (p : Nat × Nat) => match p with | (u, v) => ⟨26, [(4, .ptr 4 0), (5, .d (.one (dn M u))), (6, .d (.one (dn M v)))], [(4, .box 34 ([.v (.slice none 0 0), .v (.bool false)]))]⟩) (fun (p : Nat × Nat) => match p with | (u, v) => Nat.gcd u v = Nat.gcd x.natAbs y.natAbs) (fun (p : Nat × Nat) => match p with | (u, v) => v) (x.natAbs, y.natAbs) (rfl) (wk (sl := [(4, .ptr 4 0), (5, .d (.one (dn M x.natAbs))), (6, .d (.one (dn M y.natAbs)))]) (hp := [(4, .box 34 ([.v (.slice none 0 0), .v (.bool false)]))]) rfl ⟨hs rfl, hs' rfl (le_one (dr_mono (Nat.le_trans (Nat.le_max_left K L) hM))), hs' rfl (le_one (dr_mono (Nat.le_trans (Nat.le_max_right K L) hM))), trivial⟩ ⟨ho rfl, trivial⟩ rfl) ?_
  rintro ⟨u, v⟩ hI
  have hg : Nat.gcd u v = Nat.gcd x.natAbs y.natAbs := hI
  show AW Try.prog _ _ ⟨26, [(4, .ptr 4 0), (5, .d (.one (dn M u))), (6, .d (.one (dn M v)))], [(4, .box 34 ([.v (.slice none 0 0), .v (.bool false)]))]⟩
  refine cSeq ?_
  refine cSeq ?_
  refine cReg ?_
  refine mV hTT _ rfl ?_
  refine mV hTT (.d (.one (.v (.int .i64 ((digs4 v).length : Int))))) rfl ?_
  refine mV hTT (.d (.one (.v (.bool (decide (((digs4 v).length : Int) > 0)))))) rfl ?_
  refine mNil ?_
  refine tN ?_
  refine cCond rfl (fun hc1 => ?_) (fun hc1 => ?_)
  · skip
    refine cSkip ?_
    refine tN ?_
    refine cBlock ?_
    refine cSeq ?_
    have hy0 : 0 < v := by rcases Nat.eq_zero_or_pos v with e | e; exact absurd (of_decide_eq_true hc1) (by rw [e]; decide); exact e
    refine cReg ?_
    refine mV hTT _ rfl ?_
    refine mV hTT _ rfl ?_
    refine mC0 (aNDiv (isd M u) (isd M v) hy0 (by omega) (by omega)) rfl rfl rfl ?_
    refine mV hTT _ rfl ?_
    refine mV hTT _ rfl ?_
    refine mV hTT _ rfl ?_
    refine mV hTT _ rfl ?_
    refine mV hTT _ rfl ?_
    refine mNil ?_
    refine tN ?_
    refine cReg ?_
    refine mV hTT _ rfl ?_
    refine mV hTT _ rfl ?_
    refine mV hTT _ rfl ?_
    refine mV hTT _ rfl ?_
    refine mNil ?_
    refine bN ?_
    exact ⟨(v, (u % v)), by show Nat.gcd v (u % v) = _; rw [← hg, Nat.gcd_comm u v, Nat.gcd_rec v u, Nat.gcd_comm], by show u % v < v; exact Nat.mod_lt _ hy0, wk (sl := [(4, .ptr 4 0), (5, .d (.one (dn M v))), (6, .d (.one (dn M (u % v))))]) (hp := [(4, .box 34 ([.v (.slice none 0 0), .v (.bool false)]))]) rfl ⟨hs rfl, hs rfl, hs rfl, trivial⟩ ⟨ho rfl, trivial⟩ rfl⟩
  · skip
    refine cExit ?_
    refine tE ?_
    refine tE ?_
    refine bE ?_
    refine tN ?_
    refine cSeq ?_
    have hy0 : v = 0 := by have h0 := of_decide_eq_false hc1; have h1 := digs_len v; omega
    have hu : u = Nat.gcd x.natAbs y.natAbs := by rw [← hg, hy0, Nat.gcd_zero_right]
    refine cReg ?_
    refine mV hTT _ rfl ?_
    refine mV hTT (.d (.agg ([dn M u, .v (.bool false)]))) rfl ?_
    refine mS hTT 4 (.box 34 ([dn M u, .v (.bool false)])) rfl ?_
    refine mNil ?_
    refine tN ?_
    refine cRet ?_
    exact rQ rfl (le_rmade (by simp) (by rw [hu]; rfl))

theorem leo_znrow {t : TypeId} {K : Nat} {z : Int} : AO.le (.box t (zn K z)) (.box t [.v (.bool (decide (z < 0))), .row 1 (limbs z.natAbs).length fun i _ => .v (.int .u32 (((limbs z.natAbs).getD i 0 : Nat) : Int))]) := leo_box fun B w cs h => match cs, h with | [_, _], ⟨h1, h2, h3⟩ => ⟨h1, le_lrow K _ (fun _ => none) B w _ h2, h3⟩
theorem len_K {B : BS} {w : World} {K m : Nat} {v : Value} (h : LfR B w (ln K m) v) : (limbs m).length ≤ K := by obtain ⟨a, n, c, rfl, hr, hn, _⟩ := lr_of h; rw [hr.len]; exact hn
theorem same_len {B : BS} {w : World} {K L : Nat} {x : Int} {vs : List Value} (h : DsR B w [.agg (rn K x), .agg (zn L x)] vs) : (limbs x.natAbs).length ≤ L := by
  match vs, h with
  | [_, _], ⟨_, ⟨cs, rfl, h⟩, _⟩ =>
    match cs, h with
    | [_, _], ⟨_, h, _⟩ => exact len_K h
set_option maxRecDepth 100000 in
set_option maxHeartbeats 4000000 in
theorem aRSame {a b : List Lf} {K L : Nat} {x : Int} (ha : IsR a K x) (hb : IsN b L x) (hK : K ≤ 1000000000 := by decide) (hL : L ≤ 1000000000 := by decide) : ACall Try.prog 55 [.agg a, .agg b] (.d (.one (.v (.bool true)))) := by
  refine ACall.le (dl (DV.g ha) (dl (DV.g hb) dl0)) AV.le.rfl ?_
  refine ACall.fact (p := (limbs x.natAbs).length ≤ L) (enters Try.func55 rfl rfl) (fun B w vs h => same_len h) (fun hB => ?_)
  refine acallN hTT 39 [.tmp 4] Try.func55 rfl rfl rfl rfl rfl ?_
  refine cSeq ?_
  refine cReg ?_
  refine mN hTT (.box 34 (rn K x)) rfl rfl rfl ?_
  refine mN hTT (.box 24 (zn L x)) rfl rfl rfl ?_
  refine mV hTT _ rfl ?_
  refine mNil ?_
  refine tN ?_
  refine cSeq ?_
  refine cReg ?_
  refine mV hTT (.ptr 2 0) rfl ?_
  refine mV hTT (.d (.one (dn K x.natAbs))) rfl ?_
  refine mC0 (aNTo (isd K x.natAbs) (by omega)) rfl rfl rfl ?_
  refine mV hTT _ rfl ?_
  refine mNil ?_
  refine tN ?_
  refine cSeq ?_
  refine cSeq ?_
  refine cReg ?_
  refine mV hTT (.ptr 2 1) rfl ?_
  refine mV hTT (.d (.one (.v (.bool (decide (x < 0)))))) rfl ?_
  refine mV hTT (.ptr 3 0) rfl ?_
  refine mV hTT (.d (.one (.v (.bool (decide (x < 0)))))) rfl ?_
  refine mV hTT (.d (.one (.v (.bool false)))) (evb (by simp)) ?_
  refine mV hTT _ rfl ?_
  refine mV hTT _ rfl ?_
  refine mV hTT (.d (.one (.v (.int .i64 ((limbs x.natAbs).length : Int))))) rfl ?_
  refine mV hTT (.ptr 3 1) rfl ?_
  refine mV hTT (.d (.one (ln L x.natAbs))) rfl ?_
  refine mV hTT (.d (.one (.v (.int .i64 ((limbs x.natAbs).length : Int))))) rfl ?_
  refine mV hTT (.d (.one (.v (.bool false)))) (evb (by simp)) ?_
  refine mV hTT _ rfl ?_
  refine mNil ?_
  refine tN ?_
  refine cF rfl ?_
  refine cSkip ?_
  refine tN ?_
  refine cSeq ?_
  refine cSeq ?_
  refine cView 5 (.d (.one (.row 1 ((limbs x.natAbs).length) (fun i _ => .v (.int .u32 (((limbs x.natAbs).getD i 0 : Nat) : Int)))))) rfl (le_lrow _ _) ?_
  refine cReg ?_
  refine mV hTT _ rfl ?_
  refine mV hTT (.d (.one (.v (.int .i64 (((limbs x.natAbs).length : Nat) : Int))))) rfl ?_
  refine mV hTT _ rfl ?_
  refine mNil ?_
  refine tN ?_
  refine cBlock ?_
  refine cLoop (ι := Nat) (fun (i : Nat) => ⟨39, [(3, .ptr 3 0), (5, .d (.one (.row 1 ((limbs x.natAbs).length) (fun i _ => .v (.int .u32 (((limbs x.natAbs).getD i 0 : Nat) : Int)))))), (24, .d (.one (.v (.int .i64 ((limbs x.natAbs).length : Int))))), (25, .d (.one (.v (.int .i64 ((i : Nat) : Int)))))], [(3, .box 24 ([.v (.bool (decide (x < 0))), .row 1 ((limbs x.natAbs).length) (fun i _ => .v (.int .u32 (((limbs x.natAbs).getD i 0 : Nat) : Int)))]))]⟩) (fun (i : Nat) => True) (fun (i : Nat) => (limbs x.natAbs).length - i) 0 (trivial) (wk (sl := [(3, .ptr 3 0), (5, .d (.one (.row 1 ((limbs x.natAbs).length) (fun i _ => .v (.int .u32 (((limbs x.natAbs).getD i 0 : Nat) : Int)))))), (24, .d (.one (.v (.int .i64 ((limbs x.natAbs).length : Int))))), (25, .d (.one (.v (.int .i64 ((0 : Nat) : Int)))))]) (hp := [(3, .box 24 ([.v (.bool (decide (x < 0))), .row 1 ((limbs x.natAbs).length) (fun i _ => .v (.int .u32 (((limbs x.natAbs).getD i 0 : Nat) : Int)))]))]) rfl ⟨hs rfl, hs rfl, hs rfl, hs rfl, trivial⟩ ⟨ho' rfl (leo_znrow), trivial⟩ rfl) ?_
  rintro i hI
  have hT0 : True := hI
  show AW Try.prog _ _ ⟨39, [(3, .ptr 3 0), (5, .d (.one (.row 1 ((limbs x.natAbs).length) (fun i _ => .v (.int .u32 (((limbs x.natAbs).getD i 0 : Nat) : Int)))))), (24, .d (.one (.v (.int .i64 ((limbs x.natAbs).length : Int))))), (25, .d (.one (.v (.int .i64 ((i : Nat) : Int)))))], [(3, .box 24 ([.v (.bool (decide (x < 0))), .row 1 ((limbs x.natAbs).length) (fun i _ => .v (.int .u32 (((limbs x.natAbs).getD i 0 : Nat) : Int)))]))]⟩
  refine cSeq ?_
  refine cReg ?_
  refine mV hTT (.d (.one (.v (.bool (decide (((i : Nat) : Int) < ((limbs x.natAbs).length : Int))))))) rfl ?_
  refine mNil ?_
  refine tN ?_
  refine cSeq ?_
  refine cCond rfl (fun hc1 => ?_) (fun hc1 => ?_)
  · skip
    refine cSkip ?_
    refine tN ?_
    refine cSeq ?_
    refine cBlock ?_
    refine cSeq ?_
    have hi : i < (limbs x.natAbs).length := by have h0 := of_decide_eq_true hc1; omega
    refine cReg ?_
    refine mV hTT _ rfl ?_
    refine mV hTT _ rfl ?_
    refine mNil ?_
    refine tN ?_
    refine cSeq ?_
    refine cDrawK hTT 10 (by kernel_rfl) (by kernel_rfl) (by kernel_rfl) ?_
    refine .cons (OpS.V _ rfl) ?_
    refine .cons (OpS.V _ rfl) ?_
    refine .cons (OpS.V (.d (.one (.at 1 ((fun i _ => .v (.int .u32 (((limbs x.natAbs).getD i 0 : Nat) : Int))) i)))) (ixR (el := (fun i _ => .v (.int .u32 (((limbs x.natAbs).getD i 0 : Nat) : Int)))) (z := ((i : Nat) : Int)) (n := ((limbs x.natAbs).length)) rfl rfl rfl rfl rfl rfl (by omega) (by omega))) ?_
    refine .cons (OpS.V (.d (.one (.v (.int .u32 (((limbs x.natAbs).getD i 0 : Nat) : Int))))) rfl) ?_
    refine .cons (OpS.V (.ptr 3 1) rfl) ?_
    refine .cons (OpS.V (.d (.one (.row 1 ((limbs x.natAbs).length) (fun i _ => .v (.int .u32 (((limbs x.natAbs).getD i 0 : Nat) : Int)))))) rfl) ?_
    refine .cons (OpS.V _ rfl) ?_
    refine .cons (OpS.V (.d (.one (.at 1 ((fun i _ => .v (.int .u32 (((limbs x.natAbs).getD i 0 : Nat) : Int))) i)))) (ixR (el := (fun i _ => .v (.int .u32 (((limbs x.natAbs).getD i 0 : Nat) : Int)))) (z := ((i : Nat) : Int)) (n := ((limbs x.natAbs).length)) rfl rfl rfl rfl rfl rfl (by omega) (by omega))) ?_
    refine .cons (OpS.V (.d (.one (.v (.int .u32 (((limbs x.natAbs).getD i 0 : Nat) : Int))))) rfl) ?_
    refine .cons (OpS.V (.d (.one (.v (.bool false)))) (evb (bne_self_eq_false _))) ?_
    refine .nil ?_
    refine mNil ?_
    refine tN ?_
    refine cF rfl ?_
    refine cSkip ?_
    refine bN ?_
    refine tN ?_
    refine cReg ?_
    refine mV hTT (.d (.one (.v (.int .i64 (IntKind.i64.wrap (((i : Nat) : Int) + 1)))))) rfl ?_
    refine mV hTT _ rfl ?_
    refine mNil ?_
    exact ⟨(i + 1), trivial, by omega, wk (sl := [(3, .ptr 3 0), (5, .d (.one (.row 1 ((limbs x.natAbs).length) (fun i _ => .v (.int .u32 (((limbs x.natAbs).getD i 0 : Nat) : Int)))))), (24, .d (.one (.v (.int .i64 ((limbs x.natAbs).length : Int))))), (25, .d (.one (.v (.int .i64 (((i + 1) : Nat) : Int)))))]) (hp := [(3, .box 24 ([.v (.bool (decide (x < 0))), .row 1 ((limbs x.natAbs).length) (fun i _ => .v (.int .u32 (((limbs x.natAbs).getD i 0 : Nat) : Int)))]))]) rfl ⟨hs rfl, hs rfl, hs rfl, hs' rfl (le_int (inc64 (by omega))), trivial⟩ ⟨ho rfl, trivial⟩ rfl⟩
  · skip
    refine cExit ?_
    refine tE ?_
    refine tE ?_
    refine bE ?_
    refine tN ?_
    refine cSeq ?_
    refine cReg ?_
    refine mV hTT _ rfl ?_
    refine mNil ?_
    refine tN ?_
    refine cRet ?_
    exact rQ rfl (AV.le.rfl)

set_option maxRecDepth 100000 in
set_option maxHeartbeats 4000000 in
theorem aRMake {a b : List Lf} {K L M : Nat} {n d : Int} (ha : IsR a K n) (hb : IsR b L d) (hM : max K (max L 64) ≤ M := by decide) (hMM : M ≤ 100000000 := by decide) : ACall Try.prog 19 [.agg a, .agg b] (.d (.agg (qn M (mkR n d)))) := by
  refine ACall.le (dl (DV.g ha) (dl (DV.g hb) dl0)) AV.le.rfl ?_
  refine acallN hTT 39 [.cell 4 40] Try.func19 rfl rfl rfl rfl rfl ?_
  refine cSeq ?_
  refine cReg ?_
  refine mN hTT (.box 34 (rn K n)) rfl rfl rfl ?_
  refine mN hTT (.box 34 (rn L d)) rfl rfl rfl ?_
  refine mN hTT (.box 40 ([.v (.slice none 0 0), .v (.bool false), .v (.slice none 0 0), .v (.bool false)])) rfl rfl rfl ?_
  refine mNil ?_
  refine tN ?_
  refine cSeq ?_
  refine cSeq ?_
  refine cReg ?_
  refine mV hTT (.d (.agg (rn L d))) rfl ?_
  refine mC0 (aRZero (isr L d)) rfl rfl rfl ?_
  refine mNil ?_
  refine tN ?_
  refine cCond rfl (fun hc1 => ?_) (fun hc1 => ?_)
  · skip
    refine cReg ?_
    refine mC0 (aROf (n := 1) (by decide) (by decide)) rfl rfl rfl ?_
    refine mS hTT 3 (.box 34 (rn 64 1)) rfl ?_
    refine mNil ?_
    refine tN ?_
    refine cSeq ?_
    refine cSeq ?_
    have hd0 : d = 0 := of_decide_eq_true hc1
    refine cReg ?_
    refine mV hTT (.ptr 3 1) rfl ?_
    refine mV hTT (.d (.one (.v (.bool false)))) rfl ?_
    refine mNil ?_
    refine tN ?_
    refine cF rfl ?_
    refine cSkip ?_
    refine tN ?_
    refine cSeq ?_
    refine cSeq ?_
    by_cases hl1 : (digs4 (Int.natAbs 1)).length = 1
    · skip
      refine cReg ?_
      refine mV hTT (.ptr 3 0) rfl ?_
      refine mV hTT (.d (.one (dn 64 (Int.natAbs 1)))) rfl ?_
      refine mV hTT (.d (.one (.v (.int .i64 ((digs4 (Int.natAbs 1)).length : Int))))) rfl ?_
      refine mV hTT (.d (.one (.v (.bool true)))) (evb (by rw [hl1]; rfl)) ?_
      refine mV hTT _ rfl ?_
      refine mV hTT (.ptr 3 0) rfl ?_
      refine mV hTT (.d (.one (dn 64 (Int.natAbs 1)))) rfl ?_
      refine mView 21 (.d (.one (.row 1 ((digs4 (Int.natAbs 1)).length) (fun i _ => .v (.int .i64 (((digs4 (Int.natAbs 1)).getD i 0 : Nat) : Int)))))) rfl (le_drow _ _) ?_
      refine mV hTT (.d (.one (.at 1 ((fun i _ => .v (.int .i64 (((digs4 (Int.natAbs 1)).getD i 0 : Nat) : Int))) 0)))) (ixR (el := (fun i _ => .v (.int .i64 (((digs4 (Int.natAbs 1)).getD i 0 : Nat) : Int)))) (z := 0) (n := ((digs4 (Int.natAbs 1)).length)) rfl rfl rfl rfl rfl rfl (by decide) (by rw [hl1]; decide)) ?_
      refine mV hTT (.d (.one (.v (.int .i64 (((digs4 (Int.natAbs 1)).getD 0 0 : Nat) : Int))))) rfl ?_
      refine mV hTT (.d (.one (.v (.bool ((((digs4 (Int.natAbs 1)).getD 0 0 : Nat) : Int) == 1))))) rfl ?_
      refine mV hTT _ rfl ?_
      refine mNil ?_
      refine tN ?_
      refine cCond rfl (fun hc2 => ?_) (fun hc2 => ?_)
      · skip
        refine cSeq ?_
        refine cReg ?_
        refine mV hTT (.d (.agg (rn K n))) rfl ?_
        refine mV hTT (.d (.agg (rn 64 1))) rfl ?_
        refine mV hTT (.d (.agg (rn K n ++ rn 64 1))) rfl ?_
        refine mS hTT 4 (.box 40 (rn K n ++ rn 64 1)) rfl ?_
        refine mNil ?_
        refine tN ?_
        refine cRet ?_
        refine tR ?_
        have hq : mkR n d = Rat.divInt n 1 := by unfold mkR; rw [if_pos hd0]
        have h1 : (1 : Int) = 1 := by have h0 := digs1.1 ⟨hl1, Int.ofNat_inj.1 (eq_of_beq hc2)⟩; omega
        have hq1 : mkR n d = Rat.divInt n 1 := hq.trans (congrArg (Rat.divInt n) h1)
        obtain ⟨e1, e2⟩ := mkR_one n
        exact rQ rfl (le_qn2 (by omega) (by omega) (by rw [hq1]; exact e1.symm) (by rw [hq1]; exact h1.trans e2.symm))
      · skip
        refine cSkip ?_
        refine tN ?_
        refine cSeq ?_
        have hD : (0 : Int) < 1 := by omega
        refine cReg ?_
        refine mV hTT (.d (.agg (rn K n))) rfl ?_
        refine mV hTT (.d (.agg (rn 64 1))) rfl ?_
        refine mC0 (aRGcd (isr K n) (isr 64 1) (M := (max K 64)) (by omega) (by omega)) rfl rfl rfl ?_
        refine mN hTT (.box 34 ([.v (.slice none 0 0), .v (.bool false)])) rfl rfl rfl ?_
        refine mS hTT 5 (.box 34 (rn (max K 64) ((Nat.gcd (Int.natAbs n) (Int.natAbs 1) : Nat) : Int))) rfl ?_
        refine mNil ?_
        refine tN ?_
        refine cSeq ?_
        refine cDrawK hTT 7 (by kernel_rfl) (by kernel_rfl) (by kernel_rfl) ?_
        refine .cons (OpS.V (.d (.agg (rn K n))) rfl) ?_
        refine .cons (OpS.V (.d (.agg (rn (max K 64) ((Nat.gcd (Int.natAbs n) (Int.natAbs 1) : Nat) : Int)))) rfl) ?_
        refine .cons (OpS.C0 (aRQuo (isr K n) (isr (max K 64) ((Nat.gcd (Int.natAbs n) (Int.natAbs 1) : Nat) : Int)) (gcd_nz (by omega)) (gcd_dvd_l _ _) (M := K) (by omega) (by omega) (by omega)) rfl rfl rfl) ?_
        refine .cons (OpS.V (.d (.agg (rn 64 1))) rfl) ?_
        refine .cons (OpS.V (.d (.agg (rn (max K 64) ((Nat.gcd (Int.natAbs n) (Int.natAbs 1) : Nat) : Int)))) rfl) ?_
        refine .cons (OpS.C0 (aRQuo (isr 64 1) (isr (max K 64) ((Nat.gcd (Int.natAbs n) (Int.natAbs 1) : Nat) : Int)) (gcd_nz (by omega)) (gcd_dvd_r _ _) (M := 64) (by decide) (by decide) (by omega)) rfl rfl rfl) ?_
        refine .cons (OpS.V (.d (.agg (rn K (n / ((Nat.gcd (Int.natAbs n) (Int.natAbs 1) : Nat) : Int)) ++ rn 64 (1 / ((Nat.gcd (Int.natAbs n) (Int.natAbs 1) : Nat) : Int))))) rfl) ?_
        refine .nil ?_
        refine mS hTT 4 (.box 40 (rn K (n / ((Nat.gcd (Int.natAbs n) (Int.natAbs 1) : Nat) : Int)) ++ rn 64 (1 / ((Nat.gcd (Int.natAbs n) (Int.natAbs 1) : Nat) : Int)))) rfl ?_
        refine mNil ?_
        refine tN ?_
        refine cRet ?_
        have hq : mkR n d = Rat.divInt n 1 := by unfold mkR; rw [if_pos hd0]
        obtain ⟨e1, e2⟩ := mkR_pos (n := n) (d := 1) hD
        exact rQ rfl (le_qn2 (by omega) (by omega) (by rw [hq]; exact e1.symm) (by rw [hq]; exact e2.symm))
    · skip
      refine cReg ?_
      refine mV hTT (.ptr 3 0) rfl ?_
      refine mV hTT (.d (.one (dn 64 (Int.natAbs 1)))) rfl ?_
      refine mV hTT (.d (.one (.v (.int .i64 ((digs4 (Int.natAbs 1)).length : Int))))) rfl ?_
      refine mV hTT (.d (.one (.v (.bool false)))) (evb (beq_eq_false_iff_ne.2 fun e => hl1 (by exact_mod_cast e))) ?_
      refine mV hTT _ rfl ?_
      refine mG rfl rfl ?_
      refine mG rfl rfl ?_
      refine mG rfl rfl ?_
      refine mG rfl rfl ?_
      refine mG rfl rfl ?_
      refine mV hTT _ rfl ?_
      refine mNil ?_
      refine tN ?_
      refine cF rfl ?_
      refine cSkip ?_
      refine tN ?_
      refine cSeq ?_
      have hD : (0 : Int) < 1 := by omega
      refine cReg ?_
      refine mV hTT (.d (.agg (rn K n))) rfl ?_
      refine mV hTT (.d (.agg (rn 64 1))) rfl ?_
      refine mC0 (aRGcd (isr K n) (isr 64 1) (M := (max K 64)) (by omega) (by omega)) rfl rfl rfl ?_
      refine mN hTT (.box 34 ([.v (.slice none 0 0), .v (.bool false)])) rfl rfl rfl ?_
      refine mS hTT 5 (.box 34 (rn (max K 64) ((Nat.gcd (Int.natAbs n) (Int.natAbs 1) : Nat) : Int))) rfl ?_
      refine mNil ?_
      refine tN ?_
      refine cSeq ?_
      refine cDrawK hTT 7 (by kernel_rfl) (by kernel_rfl) (by kernel_rfl) ?_
      refine .cons (OpS.V (.d (.agg (rn K n))) rfl) ?_
      refine .cons (OpS.V (.d (.agg (rn (max K 64) ((Nat.gcd (Int.natAbs n) (Int.natAbs 1) : Nat) : Int)))) rfl) ?_
      refine .cons (OpS.C0 (aRQuo (isr K n) (isr (max K 64) ((Nat.gcd (Int.natAbs n) (Int.natAbs 1) : Nat) : Int)) (gcd_nz (by omega)) (gcd_dvd_l _ _) (M := K) (by omega) (by omega) (by omega)) rfl rfl rfl) ?_
      refine .cons (OpS.V (.d (.agg (rn 64 1))) rfl) ?_
      refine .cons (OpS.V (.d (.agg (rn (max K 64) ((Nat.gcd (Int.natAbs n) (Int.natAbs 1) : Nat) : Int)))) rfl) ?_
      refine .cons (OpS.C0 (aRQuo (isr 64 1) (isr (max K 64) ((Nat.gcd (Int.natAbs n) (Int.natAbs 1) : Nat) : Int)) (gcd_nz (by omega)) (gcd_dvd_r _ _) (M := 64) (by decide) (by decide) (by omega)) rfl rfl rfl) ?_
      refine .cons (OpS.V (.d (.agg (rn K (n / ((Nat.gcd (Int.natAbs n) (Int.natAbs 1) : Nat) : Int)) ++ rn 64 (1 / ((Nat.gcd (Int.natAbs n) (Int.natAbs 1) : Nat) : Int))))) rfl) ?_
      refine .nil ?_
      refine mS hTT 4 (.box 40 (rn K (n / ((Nat.gcd (Int.natAbs n) (Int.natAbs 1) : Nat) : Int)) ++ rn 64 (1 / ((Nat.gcd (Int.natAbs n) (Int.natAbs 1) : Nat) : Int)))) rfl ?_
      refine mNil ?_
      refine tN ?_
      refine cRet ?_
      have hq : mkR n d = Rat.divInt n 1 := by unfold mkR; rw [if_pos hd0]
      obtain ⟨e1, e2⟩ := mkR_pos (n := n) (d := 1) hD
      exact rQ rfl (le_qn2 (by omega) (by omega) (by rw [hq]; exact e1.symm) (by rw [hq]; exact e2.symm))
  · skip
    refine cSkip ?_
    refine tN ?_
    refine cSeq ?_
    refine cSeq ?_
    have hd0 : d ≠ 0 := of_decide_eq_false hc1
    refine cReg ?_
    refine mV hTT (.ptr 3 1) rfl ?_
    refine mV hTT (.d (.one (.v (.bool (decide (d < 0)))))) rfl ?_
    refine mNil ?_
    refine tN ?_
    refine cCond rfl (fun hc3 => ?_) (fun hc3 => ?_)
    · skip
      have hdn : d < 0 := of_decide_eq_true hc3
      refine cDrawK hTT 4 (by kernel_rfl) (by kernel_rfl) (by kernel_rfl) ?_
      refine .cons (OpS.V (.d (.agg (rn K n))) rfl) ?_
      refine .cons (OpS.C0 (aRNeg (isr K n) (M := K) (by omega) (by omega)) rfl rfl rfl) ?_
      refine .cons (OpS.V (.d (.agg (rn L d))) rfl) ?_
      refine .cons (OpS.C0 (aRNeg (isr L d) (M := L) (by omega) (by omega)) rfl rfl rfl) ?_
      refine .nil ?_
      refine mS hTT 2 (.box 34 (rn K (-n))) rfl ?_
      refine mS hTT 3 (.box 34 (rn L (-d))) rfl ?_
      refine mNil ?_
      refine tN ?_
      refine cSeq ?_
      refine cSeq ?_
      by_cases hl1 : (digs4 (Int.natAbs (-d))).length = 1
      · skip
        refine cReg ?_
        refine mV hTT (.ptr 3 0) rfl ?_
        refine mV hTT (.d (.one (dn L (Int.natAbs (-d))))) rfl ?_
        refine mV hTT (.d (.one (.v (.int .i64 ((digs4 (Int.natAbs (-d))).length : Int))))) rfl ?_
        refine mV hTT (.d (.one (.v (.bool true)))) (evb (by rw [hl1]; rfl)) ?_
        refine mV hTT _ rfl ?_
        refine mV hTT (.ptr 3 0) rfl ?_
        refine mV hTT (.d (.one (dn L (Int.natAbs (-d))))) rfl ?_
        refine mView 21 (.d (.one (.row 1 ((digs4 (Int.natAbs (-d))).length) (fun i _ => .v (.int .i64 (((digs4 (Int.natAbs (-d))).getD i 0 : Nat) : Int)))))) rfl (le_drow _ _) ?_
        refine mV hTT (.d (.one (.at 1 ((fun i _ => .v (.int .i64 (((digs4 (Int.natAbs (-d))).getD i 0 : Nat) : Int))) 0)))) (ixR (el := (fun i _ => .v (.int .i64 (((digs4 (Int.natAbs (-d))).getD i 0 : Nat) : Int)))) (z := 0) (n := ((digs4 (Int.natAbs (-d))).length)) rfl rfl rfl rfl rfl rfl (by decide) (by rw [hl1]; decide)) ?_
        refine mV hTT (.d (.one (.v (.int .i64 (((digs4 (Int.natAbs (-d))).getD 0 0 : Nat) : Int))))) rfl ?_
        refine mV hTT (.d (.one (.v (.bool ((((digs4 (Int.natAbs (-d))).getD 0 0 : Nat) : Int) == 1))))) rfl ?_
        refine mV hTT _ rfl ?_
        refine mNil ?_
        refine tN ?_
        refine cCond rfl (fun hc4 => ?_) (fun hc4 => ?_)
        · skip
          refine cSeq ?_
          refine cReg ?_
          refine mV hTT (.d (.agg (rn K (-n)))) rfl ?_
          refine mV hTT (.d (.agg (rn L (-d)))) rfl ?_
          refine mV hTT (.d (.agg (rn K (-n) ++ rn L (-d)))) rfl ?_
          refine mS hTT 4 (.box 40 (rn K (-n) ++ rn L (-d))) rfl ?_
          refine mNil ?_
          refine tN ?_
          refine cRet ?_
          refine tR ?_
          have hq : mkR n d = Rat.divInt (-n) (-d) := by rw [mkR_ne hd0, Rat.neg_divInt_neg]
          have h1 : ((-d) : Int) = 1 := by have h0 := digs1.1 ⟨hl1, Int.ofNat_inj.1 (eq_of_beq hc4)⟩; omega
          have hq1 : mkR n d = Rat.divInt (-n) 1 := hq.trans (congrArg (Rat.divInt (-n)) h1)
          obtain ⟨e1, e2⟩ := mkR_one (-n)
          exact rQ rfl (le_qn2 (by omega) (by omega) (by rw [hq1]; exact e1.symm) (by rw [hq1]; exact h1.trans e2.symm))
        · skip
          refine cSkip ?_
          refine tN ?_
          refine cSeq ?_
          have hD : (0 : Int) < (-d) := by omega
          refine cReg ?_
          refine mV hTT (.d (.agg (rn K (-n)))) rfl ?_
          refine mV hTT (.d (.agg (rn L (-d)))) rfl ?_
          refine mC0 (aRGcd (isr K (-n)) (isr L (-d)) (M := (max K L)) (by omega) (by omega)) rfl rfl rfl ?_
          refine mN hTT (.box 34 ([.v (.slice none 0 0), .v (.bool false)])) rfl rfl rfl ?_
          refine mS hTT 5 (.box 34 (rn (max K L) ((Nat.gcd (Int.natAbs (-n)) (Int.natAbs (-d)) : Nat) : Int))) rfl ?_
          refine mNil ?_
          refine tN ?_
          refine cSeq ?_
          refine cDrawK hTT 7 (by kernel_rfl) (by kernel_rfl) (by kernel_rfl) ?_
          refine .cons (OpS.V (.d (.agg (rn K (-n)))) rfl) ?_
          refine .cons (OpS.V (.d (.agg (rn (max K L) ((Nat.gcd (Int.natAbs (-n)) (Int.natAbs (-d)) : Nat) : Int)))) rfl) ?_
          refine .cons (OpS.C0 (aRQuo (isr K (-n)) (isr (max K L) ((Nat.gcd (Int.natAbs (-n)) (Int.natAbs (-d)) : Nat) : Int)) (gcd_nz (by omega)) (gcd_dvd_l _ _) (M := K) (by omega) (by omega) (by omega)) rfl rfl rfl) ?_
          refine .cons (OpS.V (.d (.agg (rn L (-d)))) rfl) ?_
          refine .cons (OpS.V (.d (.agg (rn (max K L) ((Nat.gcd (Int.natAbs (-n)) (Int.natAbs (-d)) : Nat) : Int)))) rfl) ?_
          refine .cons (OpS.C0 (aRQuo (isr L (-d)) (isr (max K L) ((Nat.gcd (Int.natAbs (-n)) (Int.natAbs (-d)) : Nat) : Int)) (gcd_nz (by omega)) (gcd_dvd_r _ _) (M := L) (by omega) (by omega) (by omega)) rfl rfl rfl) ?_
          refine .cons (OpS.V (.d (.agg (rn K ((-n) / ((Nat.gcd (Int.natAbs (-n)) (Int.natAbs (-d)) : Nat) : Int)) ++ rn L ((-d) / ((Nat.gcd (Int.natAbs (-n)) (Int.natAbs (-d)) : Nat) : Int))))) rfl) ?_
          refine .nil ?_
          refine mS hTT 4 (.box 40 (rn K ((-n) / ((Nat.gcd (Int.natAbs (-n)) (Int.natAbs (-d)) : Nat) : Int)) ++ rn L ((-d) / ((Nat.gcd (Int.natAbs (-n)) (Int.natAbs (-d)) : Nat) : Int)))) rfl ?_
          refine mNil ?_
          refine tN ?_
          refine cRet ?_
          have hq : mkR n d = Rat.divInt (-n) (-d) := by rw [mkR_ne hd0, Rat.neg_divInt_neg]
          obtain ⟨e1, e2⟩ := mkR_pos (n := (-n)) (d := (-d)) hD
          exact rQ rfl (le_qn2 (by omega) (by omega) (by rw [hq]; exact e1.symm) (by rw [hq]; exact e2.symm))
      · skip
        refine cReg ?_
        refine mV hTT (.ptr 3 0) rfl ?_
        refine mV hTT (.d (.one (dn L (Int.natAbs (-d))))) rfl ?_
        refine mV hTT (.d (.one (.v (.int .i64 ((digs4 (Int.natAbs (-d))).length : Int))))) rfl ?_
        refine mV hTT (.d (.one (.v (.bool false)))) (evb (beq_eq_false_iff_ne.2 fun e => hl1 (by exact_mod_cast e))) ?_
        refine mV hTT _ rfl ?_
        refine mG rfl rfl ?_
        refine mG rfl rfl ?_
        refine mG rfl rfl ?_
        refine mG rfl rfl ?_
        refine mG rfl rfl ?_
        refine mV hTT _ rfl ?_
        refine mNil ?_
        refine tN ?_
        refine cF rfl ?_
        refine cSkip ?_
        refine tN ?_
        refine cSeq ?_
        have hD : (0 : Int) < (-d) := by omega
        refine cReg ?_
        refine mV hTT (.d (.agg (rn K (-n)))) rfl ?_
        refine mV hTT (.d (.agg (rn L (-d)))) rfl ?_
        refine mC0 (aRGcd (isr K (-n)) (isr L (-d)) (M := (max K L)) (by omega) (by omega)) rfl rfl rfl ?_
        refine mN hTT (.box 34 ([.v (.slice none 0 0), .v (.bool false)])) rfl rfl rfl ?_
        refine mS hTT 5 (.box 34 (rn (max K L) ((Nat.gcd (Int.natAbs (-n)) (Int.natAbs (-d)) : Nat) : Int))) rfl ?_
        refine mNil ?_
        refine tN ?_
        refine cSeq ?_
        refine cDrawK hTT 7 (by kernel_rfl) (by kernel_rfl) (by kernel_rfl) ?_
        refine .cons (OpS.V (.d (.agg (rn K (-n)))) rfl) ?_
        refine .cons (OpS.V (.d (.agg (rn (max K L) ((Nat.gcd (Int.natAbs (-n)) (Int.natAbs (-d)) : Nat) : Int)))) rfl) ?_
        refine .cons (OpS.C0 (aRQuo (isr K (-n)) (isr (max K L) ((Nat.gcd (Int.natAbs (-n)) (Int.natAbs (-d)) : Nat) : Int)) (gcd_nz (by omega)) (gcd_dvd_l _ _) (M := K) (by omega) (by omega) (by omega)) rfl rfl rfl) ?_
        refine .cons (OpS.V (.d (.agg (rn L (-d)))) rfl) ?_
        refine .cons (OpS.V (.d (.agg (rn (max K L) ((Nat.gcd (Int.natAbs (-n)) (Int.natAbs (-d)) : Nat) : Int)))) rfl) ?_
        refine .cons (OpS.C0 (aRQuo (isr L (-d)) (isr (max K L) ((Nat.gcd (Int.natAbs (-n)) (Int.natAbs (-d)) : Nat) : Int)) (gcd_nz (by omega)) (gcd_dvd_r _ _) (M := L) (by omega) (by omega) (by omega)) rfl rfl rfl) ?_
        refine .cons (OpS.V (.d (.agg (rn K ((-n) / ((Nat.gcd (Int.natAbs (-n)) (Int.natAbs (-d)) : Nat) : Int)) ++ rn L ((-d) / ((Nat.gcd (Int.natAbs (-n)) (Int.natAbs (-d)) : Nat) : Int))))) rfl) ?_
        refine .nil ?_
        refine mS hTT 4 (.box 40 (rn K ((-n) / ((Nat.gcd (Int.natAbs (-n)) (Int.natAbs (-d)) : Nat) : Int)) ++ rn L ((-d) / ((Nat.gcd (Int.natAbs (-n)) (Int.natAbs (-d)) : Nat) : Int)))) rfl ?_
        refine mNil ?_
        refine tN ?_
        refine cRet ?_
        have hq : mkR n d = Rat.divInt (-n) (-d) := by rw [mkR_ne hd0, Rat.neg_divInt_neg]
        obtain ⟨e1, e2⟩ := mkR_pos (n := (-n)) (d := (-d)) hD
        exact rQ rfl (le_qn2 (by omega) (by omega) (by rw [hq]; exact e1.symm) (by rw [hq]; exact e2.symm))
    · skip
      refine cSkip ?_
      refine tN ?_
      refine cSeq ?_
      refine cSeq ?_
      have hdp : 0 < d := by have h0 := of_decide_eq_false hc3; omega
      by_cases hl1 : (digs4 d.natAbs).length = 1
      · skip
        refine cReg ?_
        refine mV hTT (.ptr 3 0) rfl ?_
        refine mV hTT (.d (.one (dn L d.natAbs))) rfl ?_
        refine mV hTT (.d (.one (.v (.int .i64 ((digs4 d.natAbs).length : Int))))) rfl ?_
        refine mV hTT (.d (.one (.v (.bool true)))) (evb (by rw [hl1]; rfl)) ?_
        refine mV hTT _ rfl ?_
        refine mV hTT (.ptr 3 0) rfl ?_
        refine mV hTT (.d (.one (dn L d.natAbs))) rfl ?_
        refine mView 21 (.d (.one (.row 1 ((digs4 d.natAbs).length) (fun i _ => .v (.int .i64 (((digs4 d.natAbs).getD i 0 : Nat) : Int)))))) rfl (le_drow _ _) ?_
        refine mV hTT (.d (.one (.at 1 ((fun i _ => .v (.int .i64 (((digs4 d.natAbs).getD i 0 : Nat) : Int))) 0)))) (ixR (el := (fun i _ => .v (.int .i64 (((digs4 d.natAbs).getD i 0 : Nat) : Int)))) (z := 0) (n := ((digs4 d.natAbs).length)) rfl rfl rfl rfl rfl rfl (by decide) (by rw [hl1]; decide)) ?_
        refine mV hTT (.d (.one (.v (.int .i64 (((digs4 d.natAbs).getD 0 0 : Nat) : Int))))) rfl ?_
        refine mV hTT (.d (.one (.v (.bool ((((digs4 d.natAbs).getD 0 0 : Nat) : Int) == 1))))) rfl ?_
        refine mV hTT _ rfl ?_
        refine mNil ?_
        refine tN ?_
        refine cCond rfl (fun hc5 => ?_) (fun hc5 => ?_)
        · skip
          refine cSeq ?_
          refine cReg ?_
          refine mV hTT (.d (.agg (rn K n))) rfl ?_
          refine mV hTT (.d (.agg (rn L d))) rfl ?_
          refine mV hTT (.d (.agg (rn K n ++ rn L d))) rfl ?_
          refine mS hTT 4 (.box 40 (rn K n ++ rn L d)) rfl ?_
          refine mNil ?_
          refine tN ?_
          refine cRet ?_
          refine tR ?_
          have hq : mkR n d = Rat.divInt n d := mkR_ne hd0
          have h1 : (d : Int) = 1 := by have h0 := digs1.1 ⟨hl1, Int.ofNat_inj.1 (eq_of_beq hc5)⟩; omega
          have hq1 : mkR n d = Rat.divInt n 1 := hq.trans (congrArg (Rat.divInt n) h1)
          obtain ⟨e1, e2⟩ := mkR_one n
          exact rQ rfl (le_qn2 (by omega) (by omega) (by rw [hq1]; exact e1.symm) (by rw [hq1]; exact h1.trans e2.symm))
        · skip
          refine cSkip ?_
          refine tN ?_
          refine cSeq ?_
          have hD : (0 : Int) < d := by omega
          refine cReg ?_
          refine mV hTT (.d (.agg (rn K n))) rfl ?_
          refine mV hTT (.d (.agg (rn L d))) rfl ?_
          refine mC0 (aRGcd (isr K n) (isr L d) (M := (max K L)) (by omega) (by omega)) rfl rfl rfl ?_
          refine mN hTT (.box 34 ([.v (.slice none 0 0), .v (.bool false)])) rfl rfl rfl ?_
          refine mS hTT 5 (.box 34 (rn (max K L) ((Nat.gcd (Int.natAbs n) (Int.natAbs d) : Nat) : Int))) rfl ?_
          refine mNil ?_
          refine tN ?_
          refine cSeq ?_
          refine cDrawK hTT 7 (by kernel_rfl) (by kernel_rfl) (by kernel_rfl) ?_
          refine .cons (OpS.V (.d (.agg (rn K n))) rfl) ?_
          refine .cons (OpS.V (.d (.agg (rn (max K L) ((Nat.gcd (Int.natAbs n) (Int.natAbs d) : Nat) : Int)))) rfl) ?_
          refine .cons (OpS.C0 (aRQuo (isr K n) (isr (max K L) ((Nat.gcd (Int.natAbs n) (Int.natAbs d) : Nat) : Int)) (gcd_nz (by omega)) (gcd_dvd_l _ _) (M := K) (by omega) (by omega) (by omega)) rfl rfl rfl) ?_
          refine .cons (OpS.V (.d (.agg (rn L d))) rfl) ?_
          refine .cons (OpS.V (.d (.agg (rn (max K L) ((Nat.gcd (Int.natAbs n) (Int.natAbs d) : Nat) : Int)))) rfl) ?_
          refine .cons (OpS.C0 (aRQuo (isr L d) (isr (max K L) ((Nat.gcd (Int.natAbs n) (Int.natAbs d) : Nat) : Int)) (gcd_nz (by omega)) (gcd_dvd_r _ _) (M := L) (by omega) (by omega) (by omega)) rfl rfl rfl) ?_
          refine .cons (OpS.V (.d (.agg (rn K (n / ((Nat.gcd (Int.natAbs n) (Int.natAbs d) : Nat) : Int)) ++ rn L (d / ((Nat.gcd (Int.natAbs n) (Int.natAbs d) : Nat) : Int))))) rfl) ?_
          refine .nil ?_
          refine mS hTT 4 (.box 40 (rn K (n / ((Nat.gcd (Int.natAbs n) (Int.natAbs d) : Nat) : Int)) ++ rn L (d / ((Nat.gcd (Int.natAbs n) (Int.natAbs d) : Nat) : Int)))) rfl ?_
          refine mNil ?_
          refine tN ?_
          refine cRet ?_
          have hq : mkR n d = Rat.divInt n d := mkR_ne hd0
          obtain ⟨e1, e2⟩ := mkR_pos (n := n) (d := d) hD
          exact rQ rfl (le_qn2 (by omega) (by omega) (by rw [hq]; exact e1.symm) (by rw [hq]; exact e2.symm))
      · skip
        refine cReg ?_
        refine mV hTT (.ptr 3 0) rfl ?_
        refine mV hTT (.d (.one (dn L d.natAbs))) rfl ?_
        refine mV hTT (.d (.one (.v (.int .i64 ((digs4 d.natAbs).length : Int))))) rfl ?_
        refine mV hTT (.d (.one (.v (.bool false)))) (evb (beq_eq_false_iff_ne.2 fun e => hl1 (by exact_mod_cast e))) ?_
        refine mV hTT _ rfl ?_
        refine mG rfl rfl ?_
        refine mG rfl rfl ?_
        refine mG rfl rfl ?_
        refine mG rfl rfl ?_
        refine mG rfl rfl ?_
        refine mV hTT _ rfl ?_
        refine mNil ?_
        refine tN ?_
        refine cF rfl ?_
        refine cSkip ?_
        refine tN ?_
        refine cSeq ?_
        have hD : (0 : Int) < d := by omega
        refine cReg ?_
        refine mV hTT (.d (.agg (rn K n))) rfl ?_
        refine mV hTT (.d (.agg (rn L d))) rfl ?_
        refine mC0 (aRGcd (isr K n) (isr L d) (M := (max K L)) (by omega) (by omega)) rfl rfl rfl ?_
        refine mN hTT (.box 34 ([.v (.slice none 0 0), .v (.bool false)])) rfl rfl rfl ?_
        refine mS hTT 5 (.box 34 (rn (max K L) ((Nat.gcd (Int.natAbs n) (Int.natAbs d) : Nat) : Int))) rfl ?_
        refine mNil ?_
        refine tN ?_
        refine cSeq ?_
        refine cDrawK hTT 7 (by kernel_rfl) (by kernel_rfl) (by kernel_rfl) ?_
        refine .cons (OpS.V (.d (.agg (rn K n))) rfl) ?_
        refine .cons (OpS.V (.d (.agg (rn (max K L) ((Nat.gcd (Int.natAbs n) (Int.natAbs d) : Nat) : Int)))) rfl) ?_
        refine .cons (OpS.C0 (aRQuo (isr K n) (isr (max K L) ((Nat.gcd (Int.natAbs n) (Int.natAbs d) : Nat) : Int)) (gcd_nz (by omega)) (gcd_dvd_l _ _) (M := K) (by omega) (by omega) (by omega)) rfl rfl rfl) ?_
        refine .cons (OpS.V (.d (.agg (rn L d))) rfl) ?_
        refine .cons (OpS.V (.d (.agg (rn (max K L) ((Nat.gcd (Int.natAbs n) (Int.natAbs d) : Nat) : Int)))) rfl) ?_
        refine .cons (OpS.C0 (aRQuo (isr L d) (isr (max K L) ((Nat.gcd (Int.natAbs n) (Int.natAbs d) : Nat) : Int)) (gcd_nz (by omega)) (gcd_dvd_r _ _) (M := L) (by omega) (by omega) (by omega)) rfl rfl rfl) ?_
        refine .cons (OpS.V (.d (.agg (rn K (n / ((Nat.gcd (Int.natAbs n) (Int.natAbs d) : Nat) : Int)) ++ rn L (d / ((Nat.gcd (Int.natAbs n) (Int.natAbs d) : Nat) : Int))))) rfl) ?_
        refine .nil ?_
        refine mS hTT 4 (.box 40 (rn K (n / ((Nat.gcd (Int.natAbs n) (Int.natAbs d) : Nat) : Int)) ++ rn L (d / ((Nat.gcd (Int.natAbs n) (Int.natAbs d) : Nat) : Int)))) rfl ?_
        refine mNil ?_
        refine tN ?_
        refine cRet ?_
        have hq : mkR n d = Rat.divInt n d := mkR_ne hd0
        obtain ⟨e1, e2⟩ := mkR_pos (n := n) (d := d) hD
        exact rQ rfl (le_qn2 (by omega) (by omega) (by rw [hq]; exact e1.symm) (by rw [hq]; exact e2.symm))

set_option maxRecDepth 100000 in
set_option maxHeartbeats 4000000 in
theorem aROfR {n d : Int} (h1 : -9223372036854775808 ≤ n := by decide) (h2 : n ≤ 9223372036854775807 := by decide) (h3 : -9223372036854775808 ≤ d := by decide) (h4 : d ≤ 9223372036854775807 := by decide) : ACall Try.prog 27 [.one (.v (.int .i64 n)), .one (.v (.int .i64 d))] (.d (.agg (qn 64 (mkR n d)))) := by
  refine acallN hTT 10 [.cell 4 40] Try.func27 rfl rfl rfl rfl rfl ?_
  refine cSeq ?_
  refine cReg ?_
  refine mN hTT (.box 40 ([.v (.slice none 0 0), .v (.bool false), .v (.slice none 0 0), .v (.bool false)])) rfl rfl rfl ?_
  refine mNil ?_
  refine tN ?_
  refine cSeq ?_
  refine cReg ?_
  refine mV hTT _ rfl ?_
  refine mC0 (aROf (n := n) h1 h2) rfl rfl rfl ?_
  refine mV hTT _ rfl ?_
  refine mC0 (aROf (n := d) h3 h4) rfl rfl rfl ?_
  refine mC0 (aRMake (isr 64 n) (isr 64 d) (M := 64) (by decide) (by decide)) rfl rfl rfl ?_
  refine mS hTT 4 (.box 40 (qn 64 (mkR n d))) rfl ?_
  refine mNil ?_
  refine tN ?_
  refine cRet ?_
  exact rQ rfl (AV.le.rfl)

theorem aROfI {n : Int} (h1 : -9223372036854775808 ≤ n := by decide) (h2 : n ≤ 9223372036854775807 := by decide) : ACall Try.prog 27 [.one (.v (.int .i64 n)), .one (.v (.int .i64 1))] (.d (.agg (qn 64 (n : Rat)))) := by
  have h := aROfR (d := 1) h1 h2 (by decide) (by decide)
  rw [mkR_int] at h; exact h
set_option maxRecDepth 100000 in
set_option maxHeartbeats 4000000 in
theorem aRAddR {a b : List Lf} {K L M : Nat} {x y : Rat} (ha : IsQ a K x) (hb : IsQ b L y) (hM : max (K + L + 1) 64 ≤ M := by decide) (hMM : M ≤ 10000000 := by decide) : ACall Try.prog 28 [.agg a, .agg b] (.d (.agg (qn M (x + y)))) := by
  refine ACall.le (dl (DV.g ha) (dl (DV.g hb) dl0)) AV.le.rfl ?_
  refine acallN hTT 22 [.cell 4 40] Try.func28 rfl rfl rfl rfl rfl ?_
  refine cSeq ?_
  refine cReg ?_
  refine mN hTT (.box 40 (rn K x.num ++ rn K (x.den : Int))) rfl rfl rfl ?_
  refine mN hTT (.box 40 (rn L y.num ++ rn L (y.den : Int))) rfl rfl rfl ?_
  refine mN hTT (.box 40 ([.v (.slice none 0 0), .v (.bool false), .v (.slice none 0 0), .v (.bool false)])) rfl rfl rfl ?_
  refine mNil ?_
  refine tN ?_
  refine cSeq ?_
  refine cDrawK hTT 17 (by kernel_rfl) (by kernel_rfl) (by kernel_rfl) ?_
  refine .cons (OpS.V (.ptr 2 0) rfl) ?_
  refine .cons (OpS.V (.d (.agg (rn K x.num))) rfl) ?_
  refine .cons (OpS.V (.ptr 3 2) rfl) ?_
  refine .cons (OpS.V (.d (.agg (rn L (y.den : Int)))) rfl) ?_
  refine .cons (OpS.C0 (aRMul (isr K x.num) (isr L (y.den : Int)) (M := (K + L)) (by omega) (by omega) (by omega)) rfl rfl rfl) ?_
  refine .cons (OpS.V (.ptr 3 0) rfl) ?_
  refine .cons (OpS.V (.d (.agg (rn L y.num))) rfl) ?_
  refine .cons (OpS.V (.ptr 2 2) rfl) ?_
  refine .cons (OpS.V (.d (.agg (rn K (x.den : Int)))) rfl) ?_
  refine .cons (OpS.C0 (aRMul (isr L y.num) (isr K (x.den : Int)) (M := (L + K)) (by omega) (by omega) (by omega)) rfl rfl rfl) ?_
  refine .cons (OpS.C0 (aRAdd (isr (K + L) (x.num * (y.den : Int))) (isr (L + K) (y.num * (x.den : Int))) (M := (max (K + L) (L + K) + 1)) (by omega) (by omega) (by omega)) rfl rfl rfl) ?_
  refine .cons (OpS.V (.ptr 2 2) rfl) ?_
  refine .cons (OpS.V (.d (.agg (rn K (x.den : Int)))) rfl) ?_
  refine .cons (OpS.V (.ptr 3 2) rfl) ?_
  refine .cons (OpS.V (.d (.agg (rn L (y.den : Int)))) rfl) ?_
  refine .cons (OpS.C0 (aRMul (isr K (x.den : Int)) (isr L (y.den : Int)) (M := (K + L)) (by omega) (by omega) (by omega)) rfl rfl rfl) ?_
  refine .cons (OpS.C0 (aRMake (isr (max (K + L) (L + K) + 1) ((x.num * (y.den : Int)) + (y.num * (x.den : Int)))) (isr (K + L) ((x.den : Int) * (y.den : Int))) (M := (max (max (K + L) (L + K) + 1) (max (K + L) 64))) (by omega) (by omega)) rfl rfl rfl) ?_
  refine .nil ?_
  refine mS hTT 4 (.box 40 (qn (max (max (K + L) (L + K) + 1) (max (K + L) 64)) (mkR ((x.num * (y.den : Int)) + (y.num * (x.den : Int))) ((x.den : Int) * (y.den : Int))))) rfl ?_
  refine mNil ?_
  refine tN ?_
  refine cRet ?_
  exact rQ rfl (le_qn (by omega) (mkR_add x y))

set_option maxRecDepth 100000 in
set_option maxHeartbeats 4000000 in
theorem aRMulR {a b : List Lf} {K L M : Nat} {x y : Rat} (ha : IsQ a K x) (hb : IsQ b L y) (hM : max (K + L + 1) 64 ≤ M := by decide) (hMM : M ≤ 10000000 := by decide) : ACall Try.prog 50 [.agg a, .agg b] (.d (.agg (qn M (x * y)))) := by
  refine ACall.le (dl (DV.g ha) (dl (DV.g hb) dl0)) AV.le.rfl ?_
  refine acallN hTT 16 [.cell 4 40] Try.func50 rfl rfl rfl rfl rfl ?_
  refine cSeq ?_
  refine cReg ?_
  refine mN hTT (.box 40 (rn K x.num ++ rn K (x.den : Int))) rfl rfl rfl ?_
  refine mN hTT (.box 40 (rn L y.num ++ rn L (y.den : Int))) rfl rfl rfl ?_
  refine mN hTT (.box 40 ([.v (.slice none 0 0), .v (.bool false), .v (.slice none 0 0), .v (.bool false)])) rfl rfl rfl ?_
  refine mNil ?_
  refine tN ?_
  refine cSeq ?_
  refine cDrawK hTT 11 (by kernel_rfl) (by kernel_rfl) (by kernel_rfl) ?_
  refine .cons (OpS.V (.ptr 2 0) rfl) ?_
  refine .cons (OpS.V (.d (.agg (rn K x.num))) rfl) ?_
  refine .cons (OpS.V (.ptr 3 0) rfl) ?_
  refine .cons (OpS.V (.d (.agg (rn L y.num))) rfl) ?_
  refine .cons (OpS.C0 (aRMul (isr K x.num) (isr L y.num) (M := (K + L)) (by omega) (by omega) (by omega)) rfl rfl rfl) ?_
  refine .cons (OpS.V (.ptr 2 2) rfl) ?_
  refine .cons (OpS.V (.d (.agg (rn K (x.den : Int)))) rfl) ?_
  refine .cons (OpS.V (.ptr 3 2) rfl) ?_
  refine .cons (OpS.V (.d (.agg (rn L (y.den : Int)))) rfl) ?_
  refine .cons (OpS.C0 (aRMul (isr K (x.den : Int)) (isr L (y.den : Int)) (M := (K + L)) (by omega) (by omega) (by omega)) rfl rfl rfl) ?_
  refine .cons (OpS.C0 (aRMake (isr (K + L) (x.num * y.num)) (isr (K + L) ((x.den : Int) * (y.den : Int))) (M := (max (K + L) (max (K + L) 64))) (by omega) (by omega)) rfl rfl rfl) ?_
  refine .nil ?_
  refine mS hTT 4 (.box 40 (qn (max (K + L) (max (K + L) 64)) (mkR (x.num * y.num) ((x.den : Int) * (y.den : Int))))) rfl ?_
  refine mNil ?_
  refine tN ?_
  refine cRet ?_
  exact rQ rfl (le_qn (by omega) (mkR_mul x y))

set_option maxRecDepth 100000 in
set_option maxHeartbeats 4000000 in
theorem aRNegR {a : List Lf} {K : Nat} {x : Rat} (ha : IsQ a K x) (hK : K ≤ 10000000 := by decide) : ACall Try.prog 51 [.agg a] (.d (.agg (qn K (-x)))) := by
  refine ACall.le (dl (DV.g ha) dl0) AV.le.rfl ?_
  refine acallN hTT 9 [.cell 2 40] Try.func51 rfl rfl rfl rfl rfl ?_
  refine cSeq ?_
  refine cReg ?_
  refine mN hTT (.box 40 (rn K x.num ++ rn K (x.den : Int))) rfl rfl rfl ?_
  refine mN hTT (.box 40 ([.v (.slice none 0 0), .v (.bool false), .v (.slice none 0 0), .v (.bool false)])) rfl rfl rfl ?_
  refine mNil ?_
  refine tN ?_
  refine cSeq ?_
  refine cDrawK hTT 6 (by kernel_rfl) (by kernel_rfl) (by kernel_rfl) ?_
  refine .cons (OpS.V (.ptr 1 0) rfl) ?_
  refine .cons (OpS.V (.d (.agg (rn K x.num))) rfl) ?_
  refine .cons (OpS.C0 (aRNeg (isr K x.num) (M := K) (by omega) (by omega)) rfl rfl rfl) ?_
  refine .cons (OpS.V (.ptr 1 2) rfl) ?_
  refine .cons (OpS.V (.d (.agg (rn K (x.den : Int)))) rfl) ?_
  refine .cons (OpS.V (.d (.agg (rn K (-x.num) ++ rn K (x.den : Int)))) rfl) ?_
  refine .nil ?_
  refine mS hTT 2 (.box 40 (rn K (-x.num) ++ rn K (x.den : Int))) rfl ?_
  refine mNil ?_
  refine tN ?_
  refine cRet ?_
  exact rQ rfl (le_qn2 (Nat.le_refl _) (Nat.le_refl _) (Rat.neg_num x).symm (by rw [Rat.neg_den]))

set_option maxRecDepth 100000 in
set_option maxHeartbeats 4000000 in
theorem aRSubR {a b : List Lf} {K L M : Nat} {x y : Rat} (ha : IsQ a K x) (hb : IsQ b L y) (hM : max (K + L + 1) 64 ≤ M := by decide) (hMM : M ≤ 10000000 := by decide) : ACall Try.prog 49 [.agg a, .agg b] (.d (.agg (qn M (x - y)))) := by
  refine ACall.le (dl (DV.g ha) (dl (DV.g hb) dl0)) AV.le.rfl ?_
  refine acallN hTT 9 [.cell 4 40] Try.func49 rfl rfl rfl rfl rfl ?_
  refine cSeq ?_
  refine cReg ?_
  refine mN hTT (.box 40 (rn K x.num ++ rn K (x.den : Int))) rfl rfl rfl ?_
  refine mN hTT (.box 40 (rn L y.num ++ rn L (y.den : Int))) rfl rfl rfl ?_
  refine mN hTT (.box 40 ([.v (.slice none 0 0), .v (.bool false), .v (.slice none 0 0), .v (.bool false)])) rfl rfl rfl ?_
  refine mNil ?_
  refine tN ?_
  refine cSeq ?_
  refine cDrawK hTT 4 (by kernel_rfl) (by kernel_rfl) (by kernel_rfl) ?_
  refine .cons (OpS.V (.d (.agg (rn K x.num ++ rn K (x.den : Int)))) rfl) ?_
  refine .cons (OpS.V (.d (.agg (rn L y.num ++ rn L (y.den : Int)))) rfl) ?_
  refine .cons (OpS.C0 (aRNegR (isq L y) (by omega)) rfl rfl rfl) ?_
  refine .cons (OpS.C0 (aRAddR (isq K x) (isq L (-y)) (M := (max (K + L + 1) 64)) (by omega) (by omega)) rfl rfl rfl) ?_
  refine .nil ?_
  refine mS hTT 4 (.box 40 (qn (max (K + L + 1) 64) (x + (-y)))) rfl ?_
  refine mNil ?_
  refine tN ?_
  refine cRet ?_
  exact rQ rfl (le_qn (by omega) (Rat.sub_eq_add_neg x y).symm)

set_option maxRecDepth 100000 in
set_option maxHeartbeats 4000000 in
theorem aRQuoR {a b : List Lf} {K L M : Nat} {x y : Rat} (ha : IsQ a K x) (hb : IsQ b L y) (hy : y ≠ 0) (hM : max (K + L + 1) 64 ≤ M := by decide) (hMM : M ≤ 10000000 := by decide) : ACall Try.prog 53 [.agg a, .agg b] (.d (.agg (qn M (x / y)))) := by
  refine ACall.le (dl (DV.g ha) (dl (DV.g hb) dl0)) AV.le.rfl ?_
  refine acallN hTT 16 [.cell 4 40] Try.func53 rfl rfl rfl rfl rfl ?_
  refine cSeq ?_
  refine cReg ?_
  refine mN hTT (.box 40 (rn K x.num ++ rn K (x.den : Int))) rfl rfl rfl ?_
  refine mN hTT (.box 40 (rn L y.num ++ rn L (y.den : Int))) rfl rfl rfl ?_
  refine mN hTT (.box 40 ([.v (.slice none 0 0), .v (.bool false), .v (.slice none 0 0), .v (.bool false)])) rfl rfl rfl ?_
  refine mNil ?_
  refine tN ?_
  refine cSeq ?_
  refine cDrawK hTT 11 (by kernel_rfl) (by kernel_rfl) (by kernel_rfl) ?_
  refine .cons (OpS.V (.ptr 2 0) rfl) ?_
  refine .cons (OpS.V (.d (.agg (rn K x.num))) rfl) ?_
  refine .cons (OpS.V (.ptr 3 2) rfl) ?_
  refine .cons (OpS.V (.d (.agg (rn L (y.den : Int)))) rfl) ?_
  refine .cons (OpS.C0 (aRMul (isr K x.num) (isr L (y.den : Int)) (M := (K + L)) (by omega) (by omega) (by omega)) rfl rfl rfl) ?_
  refine .cons (OpS.V (.ptr 2 2) rfl) ?_
  refine .cons (OpS.V (.d (.agg (rn K (x.den : Int)))) rfl) ?_
  refine .cons (OpS.V (.ptr 3 0) rfl) ?_
  refine .cons (OpS.V (.d (.agg (rn L y.num))) rfl) ?_
  refine .cons (OpS.C0 (aRMul (isr K (x.den : Int)) (isr L y.num) (M := (K + L)) (by omega) (by omega) (by omega)) rfl rfl rfl) ?_
  refine .cons (OpS.C0 (aRMake (isr (K + L) (x.num * (y.den : Int))) (isr (K + L) ((x.den : Int) * y.num)) (M := (max (K + L) (max (K + L) 64))) (by omega) (by omega)) rfl rfl rfl) ?_
  refine .nil ?_
  refine mS hTT 4 (.box 40 (qn (max (K + L) (max (K + L) 64)) (mkR (x.num * (y.den : Int)) ((x.den : Int) * y.num)))) rfl ?_
  refine mNil ?_
  refine tN ?_
  refine cRet ?_
  exact rQ rfl (le_qn (by omega) (mkR_quo x y hy))

set_option maxRecDepth 100000 in
set_option maxHeartbeats 4000000 in
theorem aRCmpR {a b : List Lf} {K L : Nat} {x y : Rat} (ha : IsQ a K x) (hb : IsQ b L y) (hK : K ≤ 10000000 := by decide) (hL : L ≤ 10000000 := by decide) : ACall Try.prog 29 [.agg a, .agg b] (.d (.one (.v (.int .i64 (cmpQ x y))))) := by
  refine ACall.le (dl (DV.g ha) (dl (DV.g hb) dl0)) AV.le.rfl ?_
  refine acallN hTT 16 [.tmp 4] Try.func29 rfl rfl rfl rfl rfl ?_
  refine cSeq ?_
  refine cReg ?_
  refine mN hTT (.box 40 (rn K x.num ++ rn K (x.den : Int))) rfl rfl rfl ?_
  refine mN hTT (.box 40 (rn L y.num ++ rn L (y.den : Int))) rfl rfl rfl ?_
  refine mV hTT _ rfl ?_
  refine mNil ?_
  refine tN ?_
  refine cSeq ?_
  refine cDrawK hTT 12 (by kernel_rfl) (by kernel_rfl) (by kernel_rfl) ?_
  refine .cons (OpS.V (.ptr 2 0) rfl) ?_
  refine .cons (OpS.V (.d (.agg (rn K x.num))) rfl) ?_
  refine .cons (OpS.V (.ptr 3 2) rfl) ?_
  refine .cons (OpS.V (.d (.agg (rn L (y.den : Int)))) rfl) ?_
  refine .cons (OpS.C0 (aRMul (isr K x.num) (isr L (y.den : Int)) (M := (K + L)) (by omega) (by omega) (by omega)) rfl rfl rfl) ?_
  refine .cons (OpS.V (.ptr 3 0) rfl) ?_
  refine .cons (OpS.V (.d (.agg (rn L y.num))) rfl) ?_
  refine .cons (OpS.V (.ptr 2 2) rfl) ?_
  refine .cons (OpS.V (.d (.agg (rn K (x.den : Int)))) rfl) ?_
  refine .cons (OpS.C0 (aRMul (isr L y.num) (isr K (x.den : Int)) (M := (L + K)) (by omega) (by omega) (by omega)) rfl rfl rfl) ?_
  refine .cons (OpS.C0 (aRCmp (isr (K + L) (x.num * (y.den : Int))) (isr (L + K) (y.num * (x.den : Int))) (by omega) (by omega)) rfl rfl rfl) ?_
  refine .cons (OpS.V _ rfl) ?_
  refine .nil ?_
  refine mNil ?_
  refine tN ?_
  refine cRet ?_
  exact rQ rfl (AV.le.rfl)

set_option maxRecDepth 100000 in
set_option maxHeartbeats 4000000 in
theorem aRFromR {a : List Lf} {K M : Nat} {n d : Int} (ha : IsT a K n d) (hM : max (3 * K) 64 ≤ M := by decide) (hMM : M ≤ 10000000 := by decide) : ACall Try.prog 84 [.agg a] (.d (.agg (qn M (mkR n d)))) := by
  obtain ⟨s, xs, t, ys, ha, e1, e2⟩ := ha
  refine ACall.le (dl (DV.g ha) dl0) AV.le.rfl ?_
  refine acallN hTT 10 [.cell 2 40] Try.func84 rfl rfl rfl rfl rfl ?_
  refine cSeq ?_
  refine cReg ?_
  refine mN hTT (.box 27 ([.v (.bool s), lr K xs] ++ [.v (.bool t), lr K ys])) rfl rfl rfl ?_
  refine mN hTT (.box 40 ([.v (.slice none 0 0), .v (.bool false), .v (.slice none 0 0), .v (.bool false)])) rfl rfl rfl ?_
  refine mNil ?_
  refine tN ?_
  refine cSeq ?_
  refine cDrawK hTT 7 (by kernel_rfl) (by kernel_rfl) (by kernel_rfl) ?_
  refine .cons (OpS.V (.ptr 1 0) rfl) ?_
  refine .cons (OpS.V (.d (.agg ([.v (.bool s), lr K xs]))) rfl) ?_
  refine .cons (OpS.C0 (aRFrom ⟨s, xs, fun _ _ _ h => h, e1⟩ (M := (3 * K)) (by omega) (by omega)) rfl rfl rfl) ?_
  refine .cons (OpS.V (.ptr 1 2) rfl) ?_
  refine .cons (OpS.V (.d (.agg ([.v (.bool t), lr K ys]))) rfl) ?_
  refine .cons (OpS.C0 (aRFrom ⟨t, ys, fun _ _ _ h => h, e2⟩ (M := (3 * K)) (by omega) (by omega)) rfl rfl rfl) ?_
  refine .cons (OpS.C0 (aRMake (isr (3 * K) n) (isr (3 * K) d) (M := (max (3 * K) (max (3 * K) 64))) (by omega) (by omega)) rfl rfl rfl) ?_
  refine .nil ?_
  refine mS hTT 2 (.box 40 (qn (max (3 * K) (max (3 * K) 64)) (mkR n d))) rfl ?_
  refine mNil ?_
  refine tN ?_
  refine cRet ?_
  exact rQ rfl (le_qn (by omega) rfl)

set_option maxRecDepth 100000 in
set_option maxHeartbeats 4000000 in
theorem aRSameR {a b : List Lf} {K L : Nat} {q : Rat} (ha : IsQ a K q) (hb : IsTN b L q) (hK : K ≤ 1000000000 := by decide) (hL : L ≤ 1000000000 := by decide) : ACall Try.prog 76 [.agg a, .agg b] (.d (.one (.v (.bool true)))) := by
  refine ACall.le (dl (DV.g ha) (dl (DV.g hb) dl0)) AV.le.rfl ?_
  refine acallN hTT 17 [.tmp 4] Try.func76 rfl rfl rfl rfl rfl ?_
  refine cSeq ?_
  refine cReg ?_
  refine mN hTT (.box 40 (rn K q.num ++ rn K (q.den : Int))) rfl rfl rfl ?_
  refine mN hTT (.box 27 (zn L q.num ++ zn L (q.den : Int))) rfl rfl rfl ?_
  refine mV hTT _ rfl ?_
  refine mNil ?_
  refine tN ?_
  refine cSeq ?_
  refine cReg ?_
  refine mV hTT (.ptr 2 0) rfl ?_
  refine mV hTT (.d (.agg (rn K q.num))) rfl ?_
  refine mV hTT (.ptr 3 0) rfl ?_
  refine mV hTT (.d (.agg (zn L q.num))) rfl ?_
  refine mC0 (aRSame (isr K q.num) (isn L q.num) (by omega) (by omega)) rfl rfl rfl ?_
  refine mV hTT _ rfl ?_
  refine mV hTT (.ptr 2 2) rfl ?_
  refine mV hTT (.d (.agg (rn K (q.den : Int)))) rfl ?_
  refine mV hTT (.ptr 3 2) rfl ?_
  refine mV hTT (.d (.agg (zn L (q.den : Int)))) rfl ?_
  refine mC0 (aRSame (isr K (q.den : Int)) (isn L (q.den : Int)) (by omega) (by omega)) rfl rfl rfl ?_
  refine mV hTT _ rfl ?_
  refine mV hTT _ rfl ?_
  refine mNil ?_
  refine tN ?_
  refine cRet ?_
  exact rQ rfl (AV.le.rfl)

end Go.Proofs.Ytmfmeecnieblpaa

/-
  WHOLE NUMBERS, by the machine: Small, Sum, Product.
-/
set_option linter.unusedVariables false
set_option linter.unusedSimpArgs false
namespace Go.Proofs.Ytmfmeecnieblpaa
open Go.RowKit

theorem or_join2 (r x : Nat) (hr : r < 1073741824) (hx : x < 4294967296) : IntKind.i64.wrap ((BitVec.ofInt IntKind.i64.bits ((r : Int) * 4294967296) ||| BitVec.ofInt IntKind.i64.bits (x : Int)).toNat : Int) = ((r * 4294967296 + x : Nat) : Int) := by
  have h := (bits_nat .i64 62 (by decide) (fun n h0 h1 => wr64 (by omega) (by omega)) (r * 4294967296) x (by omega) (by omega)).2
  have h2 := Nat.two_pow_add_eq_or_of_lt (i := 32) (show x < 2 ^ 32 from hx) r
  rw [Nat.mul_comm, show (2 : Nat) ^ 32 = 4294967296 from rfl] at h2
  rw [h2, ← h]
  simp
  rfl
theorem nb_small {M : Nat} (h : M < 4611686018427387904) : nbits M ≤ 62 := nbits_le_of_lt h
theorem nb_great {M : Nat} (h : ¬ M < 4611686018427387904) : 62 < nbits M := by
  apply Classical.byContradiction
  intro hn
  have h1 := nbits_lt M
  have h2 : 2 ^ nbits M ≤ 2 ^ 62 := Nat.pow_le_pow_right (by decide) (by omega)
  have h3 : (2 : Nat) ^ 62 = 4611686018427387904 := rfl
  omega
theorem drop_le (xs : List Nat) (j : Nat) (h : j ≤ xs.length) : val (xs.drop j) ≤ val xs := by
  have h1 := valB_drop B32 xs j h
  have h2 : 1 ≤ B32 ^ j := Nat.pow_pos (by decide)
  have h3 := Nat.mul_le_mul_right (valB B32 (xs.drop j)) h2
  unfold val
  omega
theorem drop_step {m i : Nat} (hi : i < (limbs m).length) : val ((limbs m).drop i) = val ((limbs m).drop (i + 1)) * 4294967296 + (limbs m).getD i 0 ∧ (limbs m).getD i 0 < 4294967296 := by
  have hx : (limbs m)[i]? = some ((limbs m)[i]'hi) := List.getElem?_eq_getElem hi
  have h := valB_drop_some B32 hx
  have hd : (limbs m).getD i 0 = (limbs m)[i]'hi := by rw [List.getD_eq_getElem?_getD, hx]; rfl
  refine ⟨?_, ?_⟩
  · rw [hd]; unfold val; rw [h]; unfold B32; omega
  · rw [hd]; exact limbs_lt m _ (List.getElem_mem hi)
set_option maxRecDepth 100000 in
set_option maxHeartbeats 4000000 in
theorem aSmallNot {a : List Lf} {K : Nat} {x : Int} (ha : IsZ a K x) (hx : ¬ x.natAbs < 4611686018427387904) (hK : K ≤ 1000000000 := by decide) : ACall Try.prog 105 [.agg a] (.tup [.one (.v (.int .i64 0)), .one (.v (.bool false))]) := by
  obtain ⟨sa, xa, ha, ea⟩ := ha
  refine ACall.le (dl (DV.z ha) dl0) AV.le.rfl ?_
  have hm : (zv sa (val xa)).natAbs = val xa := zv_abs _ _
  obtain ⟨m, hmd⟩ : ∃ m, m = val xa := ⟨_, rfl⟩
  have hb := nb_great (M := val xa) (by rw [← hm, ea]; exact hx)
  refine acallN hTT 33 [.tmp 2, .tmp 3] Try.func105 rfl rfl rfl rfl rfl ?_
  refine cSeq ?_
  refine cReg ?_
  refine mN hTT (.box 24 ([.v (.bool sa), lr K xa])) rfl rfl rfl ?_
  refine mV hTT _ rfl ?_
  refine mV hTT _ rfl ?_
  refine mNil ?_
  refine tN ?_
  refine cSeq ?_
  refine cReg ?_
  refine mV hTT (.ptr 1 1) rfl ?_
  refine mV hTT (.d (.one (lr K xa))) rfl ?_
  refine mC0 (aLNorm (islv K xa) (by omega)) rfl rfl rfl ?_
  refine mV hTT _ rfl ?_
  refine mNil ?_
  refine tN ?_
  refine cSeq ?_
  refine cSeq ?_
  refine cReg ?_
  refine mV hTT _ rfl ?_
  refine mC0 (aLBits (isl K (val xa)) (by omega)) rfl rfl rfl ?_
  refine mV hTT (.d (.one (.v (.bool (decide (((nbits (val xa) : Nat) : Int) > 62)))))) rfl ?_
  refine mNil ?_
  refine tN ?_
  refine cView 12 (.d (.one (.v (.bool true)))) rfl (le_bool (decide_eq_true (by omega))) ?_
  refine cT rfl ?_
  refine cSeq ?_
  refine cReg ?_
  refine mV hTT _ rfl ?_
  refine mV hTT _ rfl ?_
  refine mNil ?_
  refine tN ?_
  refine cRet ?_
  refine tR ?_
  exact rQ rfl (AV.le.rfl)

set_option maxRecDepth 100000 in
set_option maxHeartbeats 4000000 in
theorem aSmall {a : List Lf} {K : Nat} {x : Int} (ha : IsZ a K x) (hx : x.natAbs < 4611686018427387904) (hK : K ≤ 1000000000 := by decide) : ACall Try.prog 105 [.agg a] (.tup [.one (.v (.int .i64 x)), .one (.v (.bool true))]) := by
  obtain ⟨sa, xa, ha, ea⟩ := ha
  refine ACall.le (dl (DV.z ha) dl0) AV.le.rfl ?_
  have hm : (zv sa (val xa)).natAbs = val xa := zv_abs _ _
  obtain ⟨m, hmd⟩ : ∃ m, m = val xa := ⟨_, rfl⟩
  have hb := nb_small (M := val xa) (by rw [← hm, ea]; exact hx)
  have hvx : val xa < 4611686018427387904 := by rw [← hm, ea]; exact hx
  have hll : (limbs (val xa)).length ≤ 2 := limbs_le (by show _ < 4294967296 ^ 2; omega)
  refine acallN hTT 33 [.tmp 2, .tmp 3] Try.func105 rfl rfl rfl rfl rfl ?_
  refine cSeq ?_
  refine cReg ?_
  refine mN hTT (.box 24 ([.v (.bool sa), lr K xa])) rfl rfl rfl ?_
  refine mV hTT _ rfl ?_
  refine mV hTT _ rfl ?_
  refine mNil ?_
  refine tN ?_
  refine cSeq ?_
  refine cReg ?_
  refine mV hTT (.ptr 1 1) rfl ?_
  refine mV hTT (.d (.one (lr K xa))) rfl ?_
  refine mC0 (aLNorm (islv K xa) (by omega)) rfl rfl rfl ?_
  refine mV hTT _ rfl ?_
  refine mNil ?_
  refine tN ?_
  refine cSeq ?_
  refine cSeq ?_
  refine cReg ?_
  refine mV hTT _ rfl ?_
  refine mC0 (aLBits (isl K (val xa)) (by omega)) rfl rfl rfl ?_
  refine mV hTT (.d (.one (.v (.bool (decide (((nbits (val xa) : Nat) : Int) > 62)))))) rfl ?_
  refine mNil ?_
  refine tN ?_
  refine cView 12 (.d (.one (.v (.bool false)))) rfl (le_bool (decide_eq_false (by omega))) ?_
  refine cF rfl ?_
  refine cSkip ?_
  refine tN ?_
  refine cSeq ?_
  refine cReg ?_
  refine mV hTT _ rfl ?_
  refine mNil ?_
  refine tN ?_
  refine cSeq ?_
  refine cSeq ?_
  refine cReg ?_
  refine mV hTT _ rfl ?_
  refine mV hTT (.d (.one (.v (.int .i64 ((limbs (val xa)).length : Int))))) rfl ?_
  refine mV hTT (.d (.one (.v (.int .i64 (((limbs (val xa)).length : Int) - 1))))) (evi (wr64 (by omega) (by omega))) ?_
  refine mV hTT _ rfl ?_
  refine mNil ?_
  refine tN ?_
  refine cBlock ?_
  refine cLoop (ι := Nat) (fun (j : Nat) => ⟨33, [(1, .ptr 1 0), (4, .d (.one (ln K (val xa)))), (5, .d (.one (.v (.int .i64 ((val ((limbs (val xa)).drop j) : Nat) : Int))))), (6, .d (.one (.v (.int .i64 ((j : Int) - 1)))))], [(1, .box 24 ([.v (.bool sa), lr K xa]))]⟩) (fun (j : Nat) => j ≤ (limbs (val xa)).length) (fun (j : Nat) => j) ((limbs (val xa)).length) (Nat.le_refl _) (wk (sl := [(1, .ptr 1 0), (4, .d (.one (ln K (val xa)))), (5, .d (.one (.v (.int .i64 ((val ((limbs (val xa)).drop ((limbs (val xa)).length)) : Nat) : Int))))), (6, .d (.one (.v (.int .i64 ((((((limbs (val xa)).length) : Nat) : Int) : Int) - 1)))))]) (hp := [(1, .box 24 ([.v (.bool sa), lr K xa]))]) rfl ⟨hs rfl, hs rfl, hs' rfl (le_int (by rw [List.drop_length]; rfl)), hs' rfl (le_int rfl), trivial⟩ ⟨ho rfl, trivial⟩ rfl) ?_
  rintro j hI
  have hi : j ≤ (limbs (val xa)).length := hI
  show AW Try.prog _ _ ⟨33, [(1, .ptr 1 0), (4, .d (.one (ln K (val xa)))), (5, .d (.one (.v (.int .i64 ((val ((limbs (val xa)).drop j) : Nat) : Int))))), (6, .d (.one (.v (.int .i64 ((j : Int) - 1)))))], [(1, .box 24 ([.v (.bool sa), lr K xa]))]⟩
  refine cSeq ?_
  refine cSeq ?_
  by_cases hj0 : j = 0
  · skip
    subst hj0
    refine cReg ?_
    refine mV hTT _ rfl ?_
    refine mV hTT (.d (.one (.v (.bool false)))) (evb (decide_eq_false (by omega))) ?_
    refine mNil ?_
    refine tN ?_
    refine cF rfl ?_
    refine cExit ?_
    refine tE ?_
    refine tE ?_
    refine bE ?_
    refine tN ?_
    refine cSeq ?_
    refine cSeq ?_
    have hv : val ((limbs (val xa)).drop 0) = val xa := by rw [List.drop_zero]; exact val_limbs _
    refine cView 5 (.d (.one (.v (.int .i64 (val xa : Int))))) rfl (le_int (by rw [hv])) ?_
    cases sa
    · skip
      refine cReg ?_
      refine mV hTT (.ptr 1 0) rfl ?_
      refine mV hTT (.d (.one (.v (.bool false)))) rfl ?_
      refine mNil ?_
      refine tN ?_
      refine cF rfl ?_
      refine cSkip ?_
      refine tN ?_
      refine cSeq ?_
      refine cReg ?_
      refine mV hTT _ rfl ?_
      refine mV hTT _ rfl ?_
      refine mV hTT _ rfl ?_
      refine mNil ?_
      refine tN ?_
      refine cRet ?_
      exact rQ rfl (le_tup (dl (dle (le_int (by rw [← ea]; try rfl))) (dl DV.same dl0)))
    · skip
      refine cReg ?_
      refine mV hTT (.ptr 1 0) rfl ?_
      refine mV hTT (.d (.one (.v (.bool true)))) rfl ?_
      refine mNil ?_
      refine tN ?_
      refine cT rfl ?_
      refine cReg ?_
      refine mV hTT _ rfl ?_
      refine mV hTT (.d (.one (.v (.int .i64 (-(val xa : Int)))))) (evi ((wr64 (by omega) (by omega)).trans (by omega))) ?_
      refine mV hTT _ rfl ?_
      refine mNil ?_
      refine tN ?_
      refine cSeq ?_
      refine cReg ?_
      refine mV hTT _ rfl ?_
      refine mV hTT _ rfl ?_
      refine mV hTT _ rfl ?_
      refine mNil ?_
      refine tN ?_
      refine cRet ?_
      exact rQ rfl (le_tup (dl (dle (le_int (by rw [← ea]; try rfl))) (dl DV.same dl0)))
  · skip
    obtain ⟨i, rfl⟩ : ∃ i, j = i + 1 := ⟨j - 1, by omega⟩
    have hst := drop_step (m := val xa) (i := i) (by omega)
    have hle := drop_le (limbs (val xa)) i (by omega)
    rw [val_limbs] at hle
    refine cReg ?_
    refine mV hTT _ rfl ?_
    refine mV hTT (.d (.one (.v (.bool true)))) (evb (decide_eq_true (by omega))) ?_
    refine mNil ?_
    refine tN ?_
    refine cT rfl ?_
    refine cSkip ?_
    refine tN ?_
    refine cSeq ?_
    refine cBlock ?_
    refine cView 6 (.d (.one (.v (.int .i64 ((i : Nat) : Int))))) rfl (le_int (by omega)) ?_
    obtain ⟨r, hr⟩ : ∃ r, r = val ((limbs (val xa)).drop (i + 1)) := ⟨_, rfl⟩
    obtain ⟨y, hy⟩ : ∃ y, y = (limbs (val xa)).getD i 0 := ⟨_, rfl⟩
    rw [← hr, ← hy] at hst
    refine cView 5 (.d (.one (.v (.int .i64 (r : Int))))) rfl (le_int (by rw [hr])) ?_
    refine cReg ?_
    refine mV hTT _ rfl ?_
    refine mV hTT (.d (.one (.v (.int .i64 ((r : Int) * 4294967296))))) (evi (by show IntKind.i64.wrap ((r : Int) * 4294967296) = _; exact wr64 (by omega) (by omega))) ?_
    refine mV hTT _ rfl ?_
    refine mV hTT _ rfl ?_
    refine mView 22 (.d (.one (.row 1 ((limbs (val xa)).length) (fun i _ => .v (.int .u32 (((limbs (val xa)).getD i 0 : Nat) : Int)))))) rfl (le_lrow _ _) ?_
    refine mV hTT (.d (.one (.at 1 ((fun i _ => .v (.int .u32 (((limbs (val xa)).getD i 0 : Nat) : Int))) i)))) (ixR (el := (fun i _ => .v (.int .u32 (((limbs (val xa)).getD i 0 : Nat) : Int)))) (z := ((i : Nat) : Int)) (n := ((limbs (val xa)).length)) rfl rfl rfl rfl rfl rfl (by omega) (by omega)) ?_
    refine mV hTT (.d (.one (.v (.int .u32 (((limbs (val xa)).getD i 0 : Nat) : Int))))) rfl ?_
    refine mView 25 (.d (.one (.v (.int .u32 ((y : Nat) : Int))))) rfl (le_int (by rw [hy]; try rfl)) ?_
    refine mV hTT (.d (.one (.v (.int .i64 ((y : Nat) : Int))))) (evi (wr64 (by omega) (by omega))) ?_
    refine mV hTT (.d (.one (.v (.int .i64 ((r * 4294967296 + y : Nat) : Int))))) (evi (or_join2 r y (by omega) (by omega))) ?_
    refine mV hTT _ rfl ?_
    refine mNil ?_
    refine bN ?_
    refine tN ?_
    refine cReg ?_
    refine mV hTT _ rfl ?_
    refine mV hTT (.d (.one (.v (.int .i64 (IntKind.i64.wrap (((i : Nat) : Int) - 1)))))) rfl ?_
    refine mV hTT _ rfl ?_
    refine mNil ?_
    exact ⟨i, by omega, by omega, wk (sl := [(1, .ptr 1 0), (4, .d (.one (ln K (val xa)))), (5, .d (.one (.v (.int .i64 ((val ((limbs (val xa)).drop i) : Nat) : Int))))), (6, .d (.one (.v (.int .i64 ((i : Int) - 1)))))]) (hp := [(1, .box 24 ([.v (.bool sa), lr K xa]))]) rfl ⟨hs rfl, hs rfl, hs' rfl (le_int (by rw [hst.1])), hs' rfl (le_int ((wr64 (by omega) (by omega)).trans (by omega))), trivial⟩ ⟨ho rfl, trivial⟩ rfl⟩

def zsum (c : Nat → Int) : Nat → Int
  | 0 => 0
  | n + 1 => zsum c n + c n
def zprod (c : Nat → Int) : Nat → Int
  | 0 => 1
  | n + 1 => zprod c n * c n
theorem leo_nilz2 {t : TypeId} {K : Nat} : AO.le (.box t [.v (.bool false), .v (.slice none 0 0)]) (.box t (zn K 0)) := leo_box fun B w cs h => zn_mono (Nat.zero_le _) _ _ _ (nil_ls h)
end Go.Proofs.Ytmfmeecnieblpaa

