/-
  THE PLAIN RECKONING: small numbers, quotients, divisors, whether two are one; rationals.
-/
import Derived.Test.YtlkdlicbhhackaaJ3
import Derived.Test.YtlkdlicbhhackaaJ0
import Derived.OpenShut
import Derived.Deep.Slices
import Derived.ChangeOld
import Derived.ChangeSame
import Derived.Lib.SmallJoins
set_option linter.unusedVariables false
set_option linter.unusedSimpArgs false
namespace Go.Proofs.Ytlkdlicbhhackaa
open Go.RowKit

def del (xs : List Nat) : Nat → Nat → Lf := fun i _ => .v (.int .i64 ((xs.getD i 0 : Nat) : Int))
theorem digs_small {N : Nat} (h : N ≤ 9223372036854775808) : (digs4 N).length ≤ 5 := digs4_le (Nat.lt_of_le_of_lt h (by decide))
theorem digs_step {ds : List Nat} {R N : Nat} (hR : 0 < R) (h : ds ++ digs4 R = digs4 N) : (ds ++ [R % B4]) ++ digs4 (R / B4) = digs4 N := by
  rw [← h, digs4_pos (show R ≠ 0 by omega), List.append_assoc]; rfl
theorem digs_end {ds : List Nat} {R N : Nat} (hR : ¬ 0 < R) (h : ds ++ digs4 R = digs4 N) : ds = digs4 N := by
  obtain rfl : R = 0 := by omega
  rw [← h, show digs4 0 = [] from rfl, List.append_nil]
theorem del_app {e : TypeId} {ds : List Nat} {x m : Nat} {el2 : Nat → Nat → Lf} (hm : m = ds.length + 1) (h0 : el2 0 0 = .v (.int .i64 (x : Int)) := by rfl) : AO.le (.row e 1 (ds.length + 1) (appEl ds.length (del ds) el2)) (.row e 1 m (del (ds ++ [x]))) := by
  refine app_el hm (fun i hi j hj B w v hv => ?_) (fun j hj B w v hv => ?_)
  · unfold del at *; rw [List.getD_eq_getElem?_getD, List.getElem?_append_left hi, ← List.getD_eq_getElem?_getD]; exact hv
  · obtain rfl : j = 0 := by omega
    rw [h0] at hv
    unfold del; rw [List.getD_eq_getElem?_getD, List.getElem?_append_right (Nat.le_refl _), Nat.sub_self]; exact hv
/-- Cells one by one are a digit row. -/
theorem isd_row {n K N : Nat} {xs : List Nat} (hn : xs.length = n) (hx : xs = digs4 N) (hK : n ≤ K) : IsD (.row 1 n (del xs)) K N := by
  rintro B w c ⟨a, cap, rfl, h1, h2, h3⟩
  subst hn
  unfold dn
  rw [← hx]
  refine dr_R ⟨rfl, h1, h2, by rw [hx]; exact digs4_lt N, ?_⟩ hK (fun x hx' hne hb => ?_)
  · rcases Nat.eq_zero_or_pos xs.length with h0 | h0
    · have : xs = [] := List.eq_nil_of_length_eq_zero h0
      rw [this]; exact Or.inl rfl
    · obtain ⟨b, off, rfl, _, _, _⟩ := h3 0 h0
      refine Or.inr ⟨b, off, rfl, fun j hj => ?_⟩
      have hj' : j < xs.length := by simpa [ints] using hj
      obtain ⟨b', off', he', _, _, h4⟩ := h3 j hj'
      cases he'
      obtain ⟨x, hx1, hx2⟩ := h4 0 (by omega)
      obtain ⟨rfl, _⟩ := hx2
      rw [Nat.mul_one, Nat.add_zero] at hx1
      rw [hx1, ints_get]
      simp [hj']
  · obtain ⟨b, off, he', hb', _, _⟩ := h3 0 (List.length_pos_iff.2 hne)
    rw [he'] at hx'
    cases hx'
    exact hb' hb
theorem digs1 {m : Nat} : (digs4 m).length = 1 ∧ (digs4 m).getD 0 0 = 1 ↔ m = 1 := by
  constructor
  · rintro ⟨h1, h2⟩
    have h3 := val4_digs4 m
    match h : digs4 m, h1 with
    | [x], _ =>
      rw [h] at h2 h3
      simp at h2
      subst h2
      rw [← h3]; rfl
  · rintro rfl; rw [digs4_pos (by decide)]; exact ⟨rfl, rfl⟩
theorem quo_zv {x y : Int} (hd : y ∣ x) : zv (decide (x < 0) != decide (y < 0)) (x.natAbs / y.natAbs) = x / y := by
  obtain ⟨q, rfl⟩ := hd
  rcases Int.lt_trichotomy y 0 with hy | rfl | hy
  · rw [Int.natAbs_mul, Nat.mul_div_cancel_left _ (by omega), Int.mul_ediv_cancel_left _ (by omega)]
    rcases Int.lt_trichotomy q 0 with hq | rfl | hq
    · have := Int.mul_pos_of_neg_of_neg hy hq
      simp [zv, hy, show ¬ y * q < 0 from by omega]; omega
    · simp [zv]
    · have := Int.mul_neg_of_neg_of_pos hy hq
      simp [zv, hy, this]; omega
  · simp [zv]
  · rw [Int.natAbs_mul, Nat.mul_div_cancel_left _ (by omega), Int.mul_ediv_cancel_left _ (by omega)]
    rcases Int.lt_trichotomy q 0 with hq | rfl | hq
    · have := Int.mul_neg_of_pos_of_neg hy hq
      simp [zv, show ¬ y < 0 from by omega, this]; omega
    · simp [zv]
    · have := Int.mul_pos hy hq
      simp [zv, show ¬ y < 0 from by omega, show ¬ y * q < 0 from by omega]; omega

/-- A rational of the program, in any form; normal. -/
def IsT (ls : List Lf) (K : Nat) (n d : Int) : Prop := ∃ s xs t ys, (∀ B w cs, LsR B w ls cs → LsR B w ([.v (.bool s), lr K xs] ++ [.v (.bool t), lr K ys]) cs) ∧ zv s (val xs) = n ∧ zv t (val ys) = d
def tn (K : Nat) (q : Rat) : List Lf := zn K q.num ++ zn K (q.den : Int)
def IsTN (ls : List Lf) (K : Nat) (q : Rat) : Prop := ∀ B w cs, LsR B w ls cs → LsR B w (tn K q) cs
def cmpQ (x y : Rat) : Int := cmpZ (x.num * y.den) (y.num * x.den)
/-- A fraction (over 0: over 1). -/
def mkR (n d : Int) : Rat := Rat.divInt n (if d = 0 then 1 else d)
theorem mkR_pos {n d : Int} (h : 0 < d) : (Rat.divInt n d).num = n / ((Nat.gcd n.natAbs d.natAbs : Nat) : Int) ∧ ((Rat.divInt n d).den : Int) = d / ((Nat.gcd n.natAbs d.natAbs : Nat) : Int) := by
  obtain ⟨k, rfl⟩ := Int.eq_ofNat_of_zero_le (Int.le_of_lt h)
  have hk : k ≠ 0 := by rintro rfl; exact absurd h (by decide)
  rw [Rat.divInt_ofNat, ← Rat.normalize_eq_mkRat hk, Rat.normalize_eq hk]
  exact ⟨rfl, Int.natCast_ediv _ _⟩
theorem mkR_one (n : Int) : (Rat.divInt n 1).num = n ∧ ((Rat.divInt n 1).den : Int) = 1 := by
  have h := mkR_pos (n := n) (d := 1) (by decide)
  rw [show (Int.natAbs 1) = 1 from rfl, Nat.gcd_one_right] at h
  refine ⟨h.1.trans (Int.ediv_one n), h.2⟩
theorem gcd_dvd_l (n d : Int) : ((Nat.gcd n.natAbs d.natAbs : Nat) : Int) ∣ n := Int.dvd_natAbs.1 (Int.natCast_dvd_natCast.2 (Nat.gcd_dvd_left _ _))
theorem gcd_dvd_r (n d : Int) : ((Nat.gcd n.natAbs d.natAbs : Nat) : Int) ∣ d := Int.dvd_natAbs.1 (Int.natCast_dvd_natCast.2 (Nat.gcd_dvd_right _ _))
theorem gcd_nz {n d : Int} (h : d ≠ 0) : ((Nat.gcd n.natAbs d.natAbs : Nat) : Int) ≠ 0 := by
  have : Nat.gcd n.natAbs d.natAbs ≠ 0 := fun e => by
    have := (Nat.gcd_eq_zero_iff.1 e).2; omega
  omega
theorem den_ne (a : Rat) : (a.den : Int) ≠ 0 := by have := a.den_nz; omega
theorem mkR_ne {n d : Int} (h : d ≠ 0) : mkR n d = Rat.divInt n d := by unfold mkR; rw [if_neg h]
theorem mkR_add (a b : Rat) : mkR (a.num * b.den + b.num * a.den) (a.den * b.den) = a + b := by
  rw [mkR_ne (Int.mul_ne_zero (den_ne a) (den_ne b)), ← Rat.divInt_add_divInt _ _ (den_ne a) (den_ne b), Rat.num_divInt_den, Rat.num_divInt_den]
theorem mkR_mul (a b : Rat) : mkR (a.num * b.num) (a.den * b.den) = a * b := by
  rw [mkR_ne (Int.mul_ne_zero (den_ne a) (den_ne b)), ← Rat.divInt_mul_divInt, Rat.num_divInt_den, Rat.num_divInt_den]
theorem mkR_quo (a b : Rat) (h : b ≠ 0) : mkR (a.num * b.den) (a.den * b.num) = a / b := by
  have hb : b.num ≠ 0 := fun e => h (Rat.num_eq_zero.1 e)
  rw [mkR_ne (Int.mul_ne_zero (den_ne a) hb), ← Rat.divInt_mul_divInt, Rat.num_divInt_den, Rat.div_def, Rat.inv_def]
theorem mkR_int (n : Int) : mkR n 1 = (n : Rat) := by
  rw [mkR_ne (by decide)]
  exact Rat.ext (by rw [(mkR_one n).1, Rat.num_intCast]) (by have := (mkR_one n).2; rw [Rat.den_intCast]; omega)
set_option maxRecDepth 100000 in
set_option maxHeartbeats 4000000 in
theorem aROf {n : Int} (h1 : -9223372036854775808 ≤ n := by decide) (h2 : n ≤ 9223372036854775807 := by decide) : ACall Try.prog 85 [.one (.v (.int .i64 n))] (.d (.agg (rn 64 n))) := by
  refine acallN hTT 26 [.cell 2 42] Try.func85 rfl rfl rfl rfl rfl ?_
  refine cSeq ?_
  refine cReg ?_
  refine mN hTT (.box 42 ([.v (.slice none 0 0), .v (.bool false)])) rfl rfl rfl ?_
  refine mNil ?_
  refine tN ?_
  refine cSeq ?_
  refine cSeq ?_
  refine cReg ?_
  refine mV hTT _ rfl ?_
  refine mV hTT (.d (.one (.v (.bool (n == (-9223372036854775808)))))) rfl ?_
  refine mNil ?_
  refine tN ?_
  refine cCond rfl (fun hc1 => ?_) (fun hc1 => ?_)
  · skip
    refine cSeq ?_
    have hn : n = -9223372036854775808 := eq_of_beq hc1
    subst hn
    refine cReg ?_
    refine mC0 (aNPow (n := 63)) rfl rfl rfl ?_
    refine mC0 (aRMade (K := 64) (m := (2 ^ 63)) (neg := true) rfl) rfl rfl rfl ?_
    refine mS hTT 2 (.box 42 (rn 64 (zv true (2 ^ 63)))) rfl ?_
    refine mNil ?_
    refine tN ?_
    refine cRet ?_
    refine tR ?_
    exact rQ rfl (le_rn (by decide) (by decide))
  · skip
    refine cSkip ?_
    refine tN ?_
    refine cSeq ?_
    have hn : n ≠ -9223372036854775808 := fun e => by have h0 := hc1; rw [e] at h0; exact absurd h0 (by decide)
    have hN : n.natAbs ≤ 9223372036854775808 := by omega
    refine cReg ?_
    refine mV hTT _ rfl ?_
    refine mV hTT (.d (.one (.v (.bool (decide (n < 0)))))) rfl ?_
    refine mV hTT _ rfl ?_
    refine mNil ?_
    refine tN ?_
    refine cSeq ?_
    refine cSeq ?_
    refine cReg ?_
    refine mV hTT _ rfl ?_
    refine mNil ?_
    refine tN ?_
    refine cCond rfl (fun hc2 => ?_) (fun hc2 => ?_)
    · skip
      refine cReg ?_
      refine mV hTT _ rfl ?_
      refine mV hTT (.d (.one (.v (.int .i64 (n.natAbs : Int))))) (evi (show IntKind.i64.wrap (0 - n) = _ from by have h0 := of_decide_eq_true hc2; rw [wr64]; omega)) ?_
      refine mV hTT _ rfl ?_
      refine mNil ?_
      refine tN ?_
      refine cSeq ?_
      refine cReg ?_
      refine mV hTT _ rfl ?_
      refine mNil ?_
      refine tN ?_
      refine cSeq ?_
      refine cBlock ?_
      refine AW.wk (wkNil 4 4 3 1 (fun _ _ => .v undef) rfl rfl) ?_
      refine cLoop (ι := List Nat × Nat) (fun (p : List Nat × Nat) => match p with | (ds, R) => ⟨26, [(0, .d (.one (.v (.int .i64 ((R : Nat) : Int))))), (3, .d (.one (.v (.bool (decide (n < 0)))))), (2, .ptr 2 0), (4, .own 4)], [(2, .box 42 ([.v (.slice none 0 0), .v (.bool false)])), (4, .row 3 1 ds.length (del ds))]⟩) (fun (p : List Nat × Nat) => match p with | (ds, R) => ds ++ digs4 R = digs4 n.natAbs ∧ R ≤ 9223372036854775808 - 1) (fun (p : List Nat × Nat) => match p with | (ds, R) => R) ([], n.natAbs) (⟨rfl, by omega⟩) (wk (sl := [(0, .d (.one (.v (.int .i64 ((n.natAbs : Nat) : Int))))), (3, .d (.one (.v (.bool (decide (n < 0)))))), (2, .ptr 2 0), (4, .own 4)]) (hp := [(2, .box 42 ([.v (.slice none 0 0), .v (.bool false)])), (4, .row 3 1 (([]).length) (del ([])))]) rfl ⟨hs' rfl (le_int (rfl)), hs rfl, hs rfl, hs rfl, trivial⟩ ⟨ho rfl, ho' rfl (leo_row0), trivial⟩ rfl) ?_
      rintro ⟨ds, R⟩ hI
      obtain ⟨hd, hR9⟩ : ds ++ digs4 R = digs4 n.natAbs ∧ R ≤ 9223372036854775808 - 1 := hI
      show AW Try.prog _ _ ⟨26, [(0, .d (.one (.v (.int .i64 ((R : Nat) : Int))))), (3, .d (.one (.v (.bool (decide (n < 0)))))), (2, .ptr 2 0), (4, .own 4)], [(2, .box 42 ([.v (.slice none 0 0), .v (.bool false)])), (4, .row 3 1 ds.length (del ds))]⟩
      refine cSeq ?_
      refine cSeq ?_
      refine cReg ?_
      refine mV hTT _ rfl ?_
      refine mV hTT (.d (.one (.v (.bool (decide (((R : Nat) : Int) > 0)))))) rfl ?_
      refine mNil ?_
      refine tN ?_
      refine cCond rfl (fun hc3 => ?_) (fun hc3 => ?_)
      · skip
        refine cSkip ?_
        refine tN ?_
        refine cBlock ?_
        refine cSeq ?_
        have hR : 0 < R := by have h0 := of_decide_eq_true hc3; omega
        have hlen : ds.length ≤ 5 := by have h0 := digs_small hN; rw [← hd, List.length_append] at h0; omega
        refine cReg ?_
        refine mV hTT _ rfl ?_
        refine mV hTT _ rfl ?_
        refine mV hTT (.d (.one (.v (.int .i64 ((R % 10000 : Nat) : Int))))) rfl ?_
        refine mB hTT (.d (.one (.row 1 1 (fun i' j' => (([.v (.int .i64 ((R % 10000 : Nat) : Int))])[i' * 1 + j']?).getD (.v undef))))) rfl ?_
        refine mA hTT (id := 4) (n := ds.length) (m := 1) (el := (del ds)) (el2 := (fun i' j' => (([.v (.int .i64 ((R % 10000 : Nat) : Int))])[i' * 1 + j']?).getD (.v undef))) rfl rfl rfl (by show (ds.length + 1) * 8 ≤ 140737488355328; omega) (by omega) rfl rfl rfl rfl rfl rfl rfl rfl rfl rfl ?_
        refine mV hTT _ rfl ?_
        refine mNil ?_
        refine tN ?_
        refine cReg ?_
        refine mV hTT _ rfl ?_
        refine mV hTT (.d (.one (.v (.int .i64 (IntKind.i64.wrap (Int.tdiv (R : Int) 10000)))))) rfl ?_
        refine mV hTT _ rfl ?_
        refine mNil ?_
        refine bN ?_
        exact ⟨((ds ++ [R % 10000]), (R / 10000)), ⟨digs_step hR hd, by omega⟩, by show R / 10000 < R; omega, wk (sl := [(0, .d (.one (.v (.int .i64 (((R / 10000) : Nat) : Int))))), (3, .d (.one (.v (.bool (decide (n < 0)))))), (2, .ptr 2 0), (4, .own 4)]) (hp := [(2, .box 42 ([.v (.slice none 0 0), .v (.bool false)])), (4, .row 3 1 ((ds ++ [R % 10000]).length) (del (ds ++ [R % 10000])))]) rfl ⟨hs' rfl (le_int (show IntKind.i64.wrap (Int.tdiv (R : Int) 10000) = _ from by rw [show Int.tdiv (R : Int) 10000 = ((R / 10000 : Nat) : Int) from rfl]; exact wr64 (by omega) (by omega))), hs rfl, hs rfl, hs rfl, trivial⟩ ⟨ho rfl, ho' rfl (del_app (by simp)), trivial⟩ rfl⟩
      · skip
        refine cExit ?_
        refine tE ?_
        refine tE ?_
        refine bE ?_
        refine tN ?_
        refine cSeq ?_
        have hde : ds = digs4 n.natAbs := digs_end (by have h0 := of_decide_eq_false hc3; omega) hd
        refine AW.wk (wkRow 4 rfl) ?_
        refine cView 4 (.d (.one (dn 5 n.natAbs))) rfl (le_one (isd_row rfl hde (by rw [hde]; exact digs_small hN))) ?_
        refine cReg ?_
        refine mV hTT _ rfl ?_
        refine mV hTT _ rfl ?_
        refine mC0 (aRMade (K := 5) (m := n.natAbs) (neg := decide (n < 0)) rfl) rfl rfl rfl ?_
        refine mS hTT 2 (.box 42 (rn 5 (zv (decide (n < 0)) n.natAbs))) rfl ?_
        refine mNil ?_
        refine tN ?_
        refine cRet ?_
        exact rQ rfl (le_rn (by decide) (zv_natAbs n))
    · skip
      refine cSkip ?_
      refine tN ?_
      refine cSeq ?_
      refine cReg ?_
      refine mV hTT _ rfl ?_
      refine mNil ?_
      refine tN ?_
      refine cSeq ?_
      refine cBlock ?_
      refine AW.wk (wkNil 4 4 3 1 (fun _ _ => .v undef) rfl rfl) ?_
      refine cLoop (ι := List Nat × Nat) (fun (p : List Nat × Nat) => match p with | (ds, R) => ⟨26, [(0, .d (.one (.v (.int .i64 ((R : Nat) : Int))))), (3, .d (.one (.v (.bool (decide (n < 0)))))), (2, .ptr 2 0), (4, .own 4)], [(2, .box 42 ([.v (.slice none 0 0), .v (.bool false)])), (4, .row 3 1 ds.length (del ds))]⟩) (fun (p : List Nat × Nat) => match p with | (ds, R) => ds ++ digs4 R = digs4 n.natAbs ∧ R ≤ 9223372036854775808 - 1) (fun (p : List Nat × Nat) => match p with | (ds, R) => R) ([], n.natAbs) (⟨rfl, by omega⟩) (wk (sl := [(0, .d (.one (.v (.int .i64 ((n.natAbs : Nat) : Int))))), (3, .d (.one (.v (.bool (decide (n < 0)))))), (2, .ptr 2 0), (4, .own 4)]) (hp := [(2, .box 42 ([.v (.slice none 0 0), .v (.bool false)])), (4, .row 3 1 (([]).length) (del ([])))]) rfl ⟨hs' rfl (le_int (by have h0 := of_decide_eq_false hc2; omega)), hs rfl, hs rfl, hs rfl, trivial⟩ ⟨ho rfl, ho' rfl (leo_row0), trivial⟩ rfl) ?_
      rintro ⟨ds, R⟩ hI
      obtain ⟨hd, hR9⟩ : ds ++ digs4 R = digs4 n.natAbs ∧ R ≤ 9223372036854775808 - 1 := hI
      show AW Try.prog _ _ ⟨26, [(0, .d (.one (.v (.int .i64 ((R : Nat) : Int))))), (3, .d (.one (.v (.bool (decide (n < 0)))))), (2, .ptr 2 0), (4, .own 4)], [(2, .box 42 ([.v (.slice none 0 0), .v (.bool false)])), (4, .row 3 1 ds.length (del ds))]⟩
      refine cSeq ?_
      refine cSeq ?_
      refine cReg ?_
      refine mV hTT _ rfl ?_
      refine mV hTT (.d (.one (.v (.bool (decide (((R : Nat) : Int) > 0)))))) rfl ?_
      refine mNil ?_
      refine tN ?_
      refine cCond rfl (fun hc4 => ?_) (fun hc4 => ?_)
      · skip
        refine cSkip ?_
        refine tN ?_
        refine cBlock ?_
        refine cSeq ?_
        have hR : 0 < R := by have h0 := of_decide_eq_true hc4; omega
        have hlen : ds.length ≤ 5 := by have h0 := digs_small hN; rw [← hd, List.length_append] at h0; omega
        refine cReg ?_
        refine mV hTT _ rfl ?_
        refine mV hTT _ rfl ?_
        refine mV hTT (.d (.one (.v (.int .i64 ((R % 10000 : Nat) : Int))))) rfl ?_
        refine mB hTT (.d (.one (.row 1 1 (fun i' j' => (([.v (.int .i64 ((R % 10000 : Nat) : Int))])[i' * 1 + j']?).getD (.v undef))))) rfl ?_
        refine mA hTT (id := 4) (n := ds.length) (m := 1) (el := (del ds)) (el2 := (fun i' j' => (([.v (.int .i64 ((R % 10000 : Nat) : Int))])[i' * 1 + j']?).getD (.v undef))) rfl rfl rfl (by show (ds.length + 1) * 8 ≤ 140737488355328; omega) (by omega) rfl rfl rfl rfl rfl rfl rfl rfl rfl rfl ?_
        refine mV hTT _ rfl ?_
        refine mNil ?_
        refine tN ?_
        refine cReg ?_
        refine mV hTT _ rfl ?_
        refine mV hTT (.d (.one (.v (.int .i64 (IntKind.i64.wrap (Int.tdiv (R : Int) 10000)))))) rfl ?_
        refine mV hTT _ rfl ?_
        refine mNil ?_
        refine bN ?_
        exact ⟨((ds ++ [R % 10000]), (R / 10000)), ⟨digs_step hR hd, by omega⟩, by show R / 10000 < R; omega, wk (sl := [(0, .d (.one (.v (.int .i64 (((R / 10000) : Nat) : Int))))), (3, .d (.one (.v (.bool (decide (n < 0)))))), (2, .ptr 2 0), (4, .own 4)]) (hp := [(2, .box 42 ([.v (.slice none 0 0), .v (.bool false)])), (4, .row 3 1 ((ds ++ [R % 10000]).length) (del (ds ++ [R % 10000])))]) rfl ⟨hs' rfl (le_int (show IntKind.i64.wrap (Int.tdiv (R : Int) 10000) = _ from by rw [show Int.tdiv (R : Int) 10000 = ((R / 10000 : Nat) : Int) from rfl]; exact wr64 (by omega) (by omega))), hs rfl, hs rfl, hs rfl, trivial⟩ ⟨ho rfl, ho' rfl (del_app (by simp)), trivial⟩ rfl⟩
      · skip
        refine cExit ?_
        refine tE ?_
        refine tE ?_
        refine bE ?_
        refine tN ?_
        refine cSeq ?_
        have hde : ds = digs4 n.natAbs := digs_end (by have h0 := of_decide_eq_false hc4; omega) hd
        refine AW.wk (wkRow 4 rfl) ?_
        refine cView 4 (.d (.one (dn 5 n.natAbs))) rfl (le_one (isd_row rfl hde (by rw [hde]; exact digs_small hN))) ?_
        refine cReg ?_
        refine mV hTT _ rfl ?_
        refine mV hTT _ rfl ?_
        refine mC0 (aRMade (K := 5) (m := n.natAbs) (neg := decide (n < 0)) rfl) rfl rfl rfl ?_
        refine mS hTT 2 (.box 42 (rn 5 (zv (decide (n < 0)) n.natAbs))) rfl ?_
        refine mNil ?_
        refine tN ?_
        refine cRet ?_
        exact rQ rfl (le_rn (by decide) (zv_natAbs n))

set_option maxRecDepth 100000 in
set_option maxHeartbeats 4000000 in
theorem aRQuo {a b : List Lf} {K L M : Nat} {x y : Int} (ha : IsR a K x) (hb : IsR b L y) (hy : y ≠ 0) (hd : y ∣ x) (hM : K ≤ M := by decide) (hK : K ≤ 100000000 := by decide) (hL : L ≤ 100000000 := by decide) : ACall Try.prog 103 [.agg a, .agg b] (.d (.agg (rn M (x / y)))) := by
  refine ACall.le (dl (DV.g ha) (dl (DV.g hb) dl0)) AV.le.rfl ?_
  refine acallN hTT 22 [.cell 4 42] Try.func103 rfl rfl rfl rfl rfl ?_
  refine cSeq ?_
  refine cReg ?_
  refine mN hTT (.box 42 (rn K x)) rfl rfl rfl ?_
  refine mN hTT (.box 42 (rn L y)) rfl rfl rfl ?_
  refine mN hTT (.box 42 ([.v (.slice none 0 0), .v (.bool false)])) rfl rfl rfl ?_
  refine mNil ?_
  refine tN ?_
  refine cSeq ?_
  refine cReg ?_
  refine mV hTT (.ptr 2 0) rfl ?_
  refine mV hTT (.d (.one (dn K x.natAbs))) rfl ?_
  refine mV hTT (.ptr 3 0) rfl ?_
  refine mV hTT (.d (.one (dn L y.natAbs))) rfl ?_
  refine mC0 (aNDiv (isd K x.natAbs) (isd L y.natAbs) (by omega) (by omega) (by omega)) rfl rfl rfl ?_
  refine mV hTT _ rfl ?_
  refine mV hTT _ rfl ?_
  refine mV hTT _ rfl ?_
  refine mV hTT _ rfl ?_
  refine mV hTT _ rfl ?_
  refine mNil ?_
  refine tN ?_
  refine cSeq ?_
  refine cReg ?_
  refine mV hTT _ rfl ?_
  refine mV hTT (.ptr 2 1) rfl ?_
  refine mV hTT (.d (.one (.v (.bool (decide (x < 0)))))) rfl ?_
  refine mV hTT (.ptr 3 1) rfl ?_
  refine mV hTT (.d (.one (.v (.bool (decide (y < 0)))))) rfl ?_
  refine mV hTT (.d (.one (.v (.bool (!((decide (x < 0)) == (decide (y < 0)))))))) rfl ?_
  refine mC0 (aRMade (K := K) (m := (x.natAbs / y.natAbs)) (neg := !((decide (x < 0)) == (decide (y < 0)))) rfl) rfl rfl rfl ?_
  refine mS hTT 4 (.box 42 (rn K (zv (!((decide (x < 0)) == (decide (y < 0)))) (x.natAbs / y.natAbs)))) rfl ?_
  refine mNil ?_
  refine tN ?_
  refine cRet ?_
  exact rQ rfl (le_rn hM (quo_zv hd))

set_option maxRecDepth 100000 in
set_option maxHeartbeats 4000000 in
theorem aRGcd {a b : List Lf} {K L M : Nat} {x y : Int} (ha : IsR a K x) (hb : IsR b L y) (hM : max K L ≤ M := by decide) (hMM : M ≤ 100000000 := by decide)  : ACall Try.prog 102 [.agg a, .agg b] (.d (.agg (rn M ((Nat.gcd x.natAbs y.natAbs : Nat) : Int)))) := by
  refine ACall.le (dl (DV.g ha) (dl (DV.g hb) dl0)) AV.le.rfl ?_
  refine acallN hTT 26 [.cell 4 42] Try.func102 rfl rfl rfl rfl rfl ?_
  refine cSeq ?_
  refine cReg ?_
  refine mN hTT (.box 42 (rn K x)) rfl rfl rfl ?_
  refine mN hTT (.box 42 (rn L y)) rfl rfl rfl ?_
  refine mN hTT (.box 42 ([.v (.slice none 0 0), .v (.bool false)])) rfl rfl rfl ?_
  refine mNil ?_
  refine tN ?_
  refine cSeq ?_
  refine cDrawK hTT 6 (by kernel_rfl) (by kernel_rfl) (by kernel_rfl) ?_
  refine .cons (OpS.V (.ptr 2 0) rfl) ?_
  refine .cons (OpS.V (.d (.one (dn K x.natAbs))) rfl) ?_
  refine .cons (OpS.V (.ptr 3 0) rfl) ?_
  refine .cons (OpS.V (.d (.one (dn L y.natAbs))) rfl) ?_
  refine .cons (OpS.V _ rfl) ?_
  refine .cons (OpS.V _ rfl) ?_
  refine .nil ?_
  refine mNil ?_
  refine tN ?_
  refine cSeq ?_
  refine cBlock ?_
  refine cLoop (ι := Nat × Nat) (fun (p : Nat × Nat) => match p with | (u, v) => ⟨26, [(4, .ptr 4 0), (5, .d (.one (dn M u))), (6, .d (.one (dn M v)))], [(4, .box 42 ([.v (.slice none 0 0), .v (.bool false)]))]⟩) (fun (p : Nat × Nat) => match p with | (u, v) => Nat.gcd u v = Nat.gcd x.natAbs y.natAbs) (fun (p : Nat × Nat) => match p with | (u, v) => v) (x.natAbs, y.natAbs) (rfl) (wk (sl := [(4, .ptr 4 0), (5, .d (.one (dn M x.natAbs))), (6, .d (.one (dn M y.natAbs)))]) (hp := [(4, .box 42 ([.v (.slice none 0 0), .v (.bool false)]))]) rfl ⟨hs rfl, hs' rfl (le_one (dr_mono (Nat.le_trans (Nat.le_max_left K L) hM))), hs' rfl (le_one (dr_mono (Nat.le_trans (Nat.le_max_right K L) hM))), trivial⟩ ⟨ho rfl, trivial⟩ rfl) ?_
  rintro ⟨u, v⟩ hI
  have hg : Nat.gcd u v = Nat.gcd x.natAbs y.natAbs := hI
  show AW Try.prog _ _ ⟨26, [(4, .ptr 4 0), (5, .d (.one (dn M u))), (6, .d (.one (dn M v)))], [(4, .box 42 ([.v (.slice none 0 0), .v (.bool false)]))]⟩
  refine cSeq ?_
  refine cSeq ?_
  refine cReg ?_
  refine mV hTT _ rfl ?_
  refine mV hTT (.d (.one (.v (.int .i64 ((digs4 v).length : Int))))) rfl ?_
  refine mV hTT (.d (.one (.v (.bool (decide (((digs4 v).length : Int) > 0)))))) rfl ?_
  refine mNil ?_
  refine tN ?_
  refine cCond rfl (fun hc1 => ?_) (fun hc1 => ?_)
  · skip
    refine cSkip ?_
    refine tN ?_
    refine cBlock ?_
    refine cSeq ?_
    have hy0 : 0 < v := by rcases Nat.eq_zero_or_pos v with e | e; exact absurd (of_decide_eq_true hc1) (by rw [e]; decide); exact e
    refine cReg ?_
    refine mV hTT _ rfl ?_
    refine mV hTT _ rfl ?_
    refine mC0 (aNDiv (isd M u) (isd M v) hy0 (by omega) (by omega)) rfl rfl rfl ?_
    refine mV hTT _ rfl ?_
    refine mV hTT _ rfl ?_
    refine mV hTT _ rfl ?_
    refine mV hTT _ rfl ?_
    refine mV hTT _ rfl ?_
    refine mNil ?_
    refine tN ?_
    refine cReg ?_
    refine mV hTT _ rfl ?_
    refine mV hTT _ rfl ?_
    refine mV hTT _ rfl ?_
    refine mV hTT _ rfl ?_
    refine mNil ?_
    refine bN ?_
    exact ⟨(v, (u % v)), by show Nat.gcd v (u % v) = _; rw [← hg, Nat.gcd_comm u v, Nat.gcd_rec v u, Nat.gcd_comm], by show u % v < v; exact Nat.mod_lt _ hy0, wk (sl := [(4, .ptr 4 0), (5, .d (.one (dn M v))), (6, .d (.one (dn M (u % v))))]) (hp := [(4, .box 42 ([.v (.slice none 0 0), .v (.bool false)]))]) rfl ⟨hs rfl, hs rfl, hs rfl, trivial⟩ ⟨ho rfl, trivial⟩ rfl⟩
  · skip
    refine cExit ?_
    refine tE ?_
    refine tE ?_
    refine bE ?_
    refine tN ?_
    refine cSeq ?_
    have hy0 : v = 0 := by have h0 := of_decide_eq_false hc1; have h1 := digs_len v; omega
    have hu : u = Nat.gcd x.natAbs y.natAbs := by rw [← hg, hy0, Nat.gcd_zero_right]
    refine cReg ?_
    refine mV hTT _ rfl ?_
    refine mV hTT (.d (.agg ([dn M u, .v (.bool false)]))) rfl ?_
    refine mS hTT 4 (.box 42 ([dn M u, .v (.bool false)])) rfl ?_
    refine mNil ?_
    refine tN ?_
    refine cRet ?_
    exact rQ rfl (le_rmade (by simp) (by rw [hu]; rfl))

theorem leo_znrow {t : TypeId} {K : Nat} {z : Int} : AO.le (.box t (zn K z)) (.box t [.v (.bool (decide (z < 0))), .row 1 (limbs z.natAbs).length fun i _ => .v (.int .u32 (((limbs z.natAbs).getD i 0 : Nat) : Int))]) := leo_box fun B w cs h => match cs, h with | [_, _], ⟨h1, h2, h3⟩ => ⟨h1, le_lrow K _ (fun _ => none) B w _ h2, h3⟩
theorem len_K {B : BS} {w : World} {K m : Nat} {v : Value} (h : LfR B w (ln K m) v) : (limbs m).length ≤ K := by obtain ⟨a, n, c, rfl, hr, hn, _⟩ := lr_of h; rw [hr.len]; exact hn
theorem same_len {B : BS} {w : World} {K L : Nat} {x : Int} {vs : List Value} (h : DsR B w [.agg (rn K x), .agg (zn L x)] vs) : (limbs x.natAbs).length ≤ L := by
  match vs, h with
  | [_, _], ⟨_, ⟨cs, rfl, h⟩, _⟩ =>
    match cs, h with
    | [_, _], ⟨_, h, _⟩ => exact len_K h
set_option maxRecDepth 100000 in
set_option maxHeartbeats 4000000 in
theorem aRSame {a b : List Lf} {K L : Nat} {x : Int} (ha : IsR a K x) (hb : IsN b L x) (hK : K ≤ 1000000000 := by decide) (hL : L ≤ 1000000000 := by decide) : ACall Try.prog 74 [.agg a, .agg b] (.d (.one (.v (.bool true)))) := by
  refine ACall.le (dl (DV.g ha) (dl (DV.g hb) dl0)) AV.le.rfl ?_
  refine ACall.fact (p := (limbs x.natAbs).length ≤ L) (enters Try.func74 rfl rfl) (fun B w vs h => same_len h) (fun hB => ?_)
  refine acallN hTT 39 [.tmp 4] Try.func74 rfl rfl rfl rfl rfl ?_
  refine cSeq ?_
  refine cReg ?_
  refine mN hTT (.box 42 (rn K x)) rfl rfl rfl ?_
  refine mN hTT (.box 36 (zn L x)) rfl rfl rfl ?_
  refine mV hTT _ rfl ?_
  refine mNil ?_
  refine tN ?_
  refine cSeq ?_
  refine cReg ?_
  refine mV hTT (.ptr 2 0) rfl ?_
  refine mV hTT (.d (.one (dn K x.natAbs))) rfl ?_
  refine mC0 (aNTo (isd K x.natAbs) (by omega)) rfl rfl rfl ?_
  refine mV hTT _ rfl ?_
  refine mNil ?_
  refine tN ?_
  refine cSeq ?_
  refine cSeq ?_
  refine cReg ?_
  refine mV hTT (.ptr 2 1) rfl ?_
  refine mV hTT (.d (.one (.v (.bool (decide (x < 0)))))) rfl ?_
  refine mV hTT (.ptr 3 0) rfl ?_
  refine mV hTT (.d (.one (.v (.bool (decide (x < 0)))))) rfl ?_
  refine mV hTT (.d (.one (.v (.bool false)))) (evb (by simp)) ?_
  refine mV hTT _ rfl ?_
  refine mV hTT _ rfl ?_
  refine mV hTT (.d (.one (.v (.int .i64 ((limbs x.natAbs).length : Int))))) rfl ?_
  refine mV hTT (.ptr 3 1) rfl ?_
  refine mV hTT (.d (.one (ln L x.natAbs))) rfl ?_
  refine mV hTT (.d (.one (.v (.int .i64 ((limbs x.natAbs).length : Int))))) rfl ?_
  refine mV hTT (.d (.one (.v (.bool false)))) (evb (by simp)) ?_
  refine mV hTT _ rfl ?_
  refine mNil ?_
  refine tN ?_
  refine cF rfl ?_
  refine cSkip ?_
  refine tN ?_
  refine cSeq ?_
  refine cSeq ?_
  refine cView 5 (.d (.one (.row 1 ((limbs x.natAbs).length) (fun i _ => .v (.int .u32 (((limbs x.natAbs).getD i 0 : Nat) : Int)))))) rfl (le_lrow _ _) ?_
  refine cReg ?_
  refine mV hTT _ rfl ?_
  refine mV hTT (.d (.one (.v (.int .i64 (((limbs x.natAbs).length : Nat) : Int))))) rfl ?_
  refine mV hTT _ rfl ?_
  refine mNil ?_
  refine tN ?_
  refine cBlock ?_
  refine cLoop (ι := Nat) (fun (i : Nat) => ⟨39, [(3, .ptr 3 0), (5, .d (.one (.row 1 ((limbs x.natAbs).length) (fun i _ => .v (.int .u32 (((limbs x.natAbs).getD i 0 : Nat) : Int)))))), (24, .d (.one (.v (.int .i64 ((limbs x.natAbs).length : Int))))), (25, .d (.one (.v (.int .i64 ((i : Nat) : Int)))))], [(3, .box 36 ([.v (.bool (decide (x < 0))), .row 1 ((limbs x.natAbs).length) (fun i _ => .v (.int .u32 (((limbs x.natAbs).getD i 0 : Nat) : Int)))]))]⟩) (fun (i : Nat) => True) (fun (i : Nat) => (limbs x.natAbs).length - i) 0 (trivial) (wk (sl := [(3, .ptr 3 0), (5, .d (.one (.row 1 ((limbs x.natAbs).length) (fun i _ => .v (.int .u32 (((limbs x.natAbs).getD i 0 : Nat) : Int)))))), (24, .d (.one (.v (.int .i64 ((limbs x.natAbs).length : Int))))), (25, .d (.one (.v (.int .i64 ((0 : Nat) : Int)))))]) (hp := [(3, .box 36 ([.v (.bool (decide (x < 0))), .row 1 ((limbs x.natAbs).length) (fun i _ => .v (.int .u32 (((limbs x.natAbs).getD i 0 : Nat) : Int)))]))]) rfl ⟨hs rfl, hs rfl, hs rfl, hs rfl, trivial⟩ ⟨ho' rfl (leo_znrow), trivial⟩ rfl) ?_
  rintro i hI
  have hT0 : True := hI
  show AW Try.prog _ _ ⟨39, [(3, .ptr 3 0), (5, .d (.one (.row 1 ((limbs x.natAbs).length) (fun i _ => .v (.int .u32 (((limbs x.natAbs).getD i 0 : Nat) : Int)))))), (24, .d (.one (.v (.int .i64 ((limbs x.natAbs).length : Int))))), (25, .d (.one (.v (.int .i64 ((i : Nat) : Int)))))], [(3, .box 36 ([.v (.bool (decide (x < 0))), .row 1 ((limbs x.natAbs).length) (fun i _ => .v (.int .u32 (((limbs x.natAbs).getD i 0 : Nat) : Int)))]))]⟩
  refine cSeq ?_
  refine cReg ?_
  refine mV hTT (.d (.one (.v (.bool (decide (((i : Nat) : Int) < ((limbs x.natAbs).length : Int))))))) rfl ?_
  refine mNil ?_
  refine tN ?_
  refine cSeq ?_
  refine cCond rfl (fun hc1 => ?_) (fun hc1 => ?_)
  · skip
    refine cSkip ?_
    refine tN ?_
    refine cSeq ?_
    refine cBlock ?_
    refine cSeq ?_
    have hi : i < (limbs x.natAbs).length := by have h0 := of_decide_eq_true hc1; omega
    refine cReg ?_
    refine mV hTT _ rfl ?_
    refine mV hTT _ rfl ?_
    refine mNil ?_
    refine tN ?_
    refine cSeq ?_
    refine cDrawK hTT 10 (by kernel_rfl) (by kernel_rfl) (by kernel_rfl) ?_
    refine .cons (OpS.V _ rfl) ?_
    refine .cons (OpS.V _ rfl) ?_
    refine .cons (OpS.V (.d (.one (.at 1 ((fun i _ => .v (.int .u32 (((limbs x.natAbs).getD i 0 : Nat) : Int))) i)))) (ixR (el := (fun i _ => .v (.int .u32 (((limbs x.natAbs).getD i 0 : Nat) : Int)))) (z := ((i : Nat) : Int)) (n := ((limbs x.natAbs).length)) rfl rfl rfl rfl rfl rfl (by omega) (by omega))) ?_
    refine .cons (OpS.V (.d (.one (.v (.int .u32 (((limbs x.natAbs).getD i 0 : Nat) : Int))))) rfl) ?_
    refine .cons (OpS.V (.ptr 3 1) rfl) ?_
    refine .cons (OpS.V (.d (.one (.row 1 ((limbs x.natAbs).length) (fun i _ => .v (.int .u32 (((limbs x.natAbs).getD i 0 : Nat) : Int)))))) rfl) ?_
    refine .cons (OpS.V _ rfl) ?_
    refine .cons (OpS.V (.d (.one (.at 1 ((fun i _ => .v (.int .u32 (((limbs x.natAbs).getD i 0 : Nat) : Int))) i)))) (ixR (el := (fun i _ => .v (.int .u32 (((limbs x.natAbs).getD i 0 : Nat) : Int)))) (z := ((i : Nat) : Int)) (n := ((limbs x.natAbs).length)) rfl rfl rfl rfl rfl rfl (by omega) (by omega))) ?_
    refine .cons (OpS.V (.d (.one (.v (.int .u32 (((limbs x.natAbs).getD i 0 : Nat) : Int))))) rfl) ?_
    refine .cons (OpS.V (.d (.one (.v (.bool false)))) (evb (bne_self_eq_false _))) ?_
    refine .nil ?_
    refine mNil ?_
    refine tN ?_
    refine cF rfl ?_
    refine cSkip ?_
    refine bN ?_
    refine tN ?_
    refine cReg ?_
    refine mV hTT (.d (.one (.v (.int .i64 (IntKind.i64.wrap (((i : Nat) : Int) + 1)))))) rfl ?_
    refine mV hTT _ rfl ?_
    refine mNil ?_
    exact ⟨(i + 1), trivial, by omega, wk (sl := [(3, .ptr 3 0), (5, .d (.one (.row 1 ((limbs x.natAbs).length) (fun i _ => .v (.int .u32 (((limbs x.natAbs).getD i 0 : Nat) : Int)))))), (24, .d (.one (.v (.int .i64 ((limbs x.natAbs).length : Int))))), (25, .d (.one (.v (.int .i64 (((i + 1) : Nat) : Int)))))]) (hp := [(3, .box 36 ([.v (.bool (decide (x < 0))), .row 1 ((limbs x.natAbs).length) (fun i _ => .v (.int .u32 (((limbs x.natAbs).getD i 0 : Nat) : Int)))]))]) rfl ⟨hs rfl, hs rfl, hs rfl, hs' rfl (le_int (inc64 (by omega))), trivial⟩ ⟨ho rfl, trivial⟩ rfl⟩
  · skip
    refine cExit ?_
    refine tE ?_
    refine tE ?_
    refine bE ?_
    refine tN ?_
    refine cSeq ?_
    refine cReg ?_
    refine mV hTT _ rfl ?_
    refine mNil ?_
    refine tN ?_
    refine cRet ?_
    exact rQ rfl (AV.le.rfl)

set_option maxRecDepth 100000 in
set_option maxHeartbeats 4000000 in
theorem aRMake {a b : List Lf} {K L M : Nat} {n d : Int} (ha : IsR a K n) (hb : IsR b L d) (hM : max K (max L 64) ≤ M := by decide) (hMM : M ≤ 100000000 := by decide) : ACall Try.prog 88 [.agg a, .agg b] (.d (.agg (qn M (mkR n d)))) := by
  refine ACall.le (dl (DV.g ha) (dl (DV.g hb) dl0)) AV.le.rfl ?_
  refine acallN hTT 39 [.cell 4 68] Try.func88 rfl rfl rfl rfl rfl ?_
  refine cSeq ?_
  refine cReg ?_
  refine mN hTT (.box 42 (rn K n)) rfl rfl rfl ?_
  refine mN hTT (.box 42 (rn L d)) rfl rfl rfl ?_
  refine mN hTT (.box 68 ([.v (.slice none 0 0), .v (.bool false), .v (.slice none 0 0), .v (.bool false)])) rfl rfl rfl ?_
  refine mNil ?_
  refine tN ?_
  refine cSeq ?_
  refine cSeq ?_
  refine cReg ?_
  refine mV hTT (.d (.agg (rn L d))) rfl ?_
  refine mC0 (aRZero (isr L d)) rfl rfl rfl ?_
  refine mNil ?_
  refine tN ?_
  refine cCond rfl (fun hc1 => ?_) (fun hc1 => ?_)
  · skip
    refine cReg ?_
    refine mC0 (aROf (n := 1) (by decide) (by decide)) rfl rfl rfl ?_
    refine mS hTT 3 (.box 42 (rn 64 1)) rfl ?_
    refine mNil ?_
    refine tN ?_
    refine cSeq ?_
    refine cSeq ?_
    have hd0 : d = 0 := of_decide_eq_true hc1
    refine cReg ?_
    refine mV hTT (.ptr 3 1) rfl ?_
    refine mV hTT (.d (.one (.v (.bool false)))) rfl ?_
    refine mNil ?_
    refine tN ?_
    refine cF rfl ?_
    refine cSkip ?_
    refine tN ?_
    refine cSeq ?_
    refine cSeq ?_
    by_cases hl1 : (digs4 (Int.natAbs 1)).length = 1
    · skip
      refine cReg ?_
      refine mV hTT (.ptr 3 0) rfl ?_
      refine mV hTT (.d (.one (dn 64 (Int.natAbs 1)))) rfl ?_
      refine mV hTT (.d (.one (.v (.int .i64 ((digs4 (Int.natAbs 1)).length : Int))))) rfl ?_
      refine mV hTT (.d (.one (.v (.bool true)))) (evb (by rw [hl1]; rfl)) ?_
      refine mV hTT _ rfl ?_
      refine mV hTT (.ptr 3 0) rfl ?_
      refine mV hTT (.d (.one (dn 64 (Int.natAbs 1)))) rfl ?_
      refine mView 21 (.d (.one (.row 1 ((digs4 (Int.natAbs 1)).length) (fun i _ => .v (.int .i64 (((digs4 (Int.natAbs 1)).getD i 0 : Nat) : Int)))))) rfl (le_drow _ _) ?_
      refine mV hTT (.d (.one (.at 1 ((fun i _ => .v (.int .i64 (((digs4 (Int.natAbs 1)).getD i 0 : Nat) : Int))) 0)))) (ixR (el := (fun i _ => .v (.int .i64 (((digs4 (Int.natAbs 1)).getD i 0 : Nat) : Int)))) (z := 0) (n := ((digs4 (Int.natAbs 1)).length)) rfl rfl rfl rfl rfl rfl (by decide) (by rw [hl1]; decide)) ?_
      refine mV hTT (.d (.one (.v (.int .i64 (((digs4 (Int.natAbs 1)).getD 0 0 : Nat) : Int))))) rfl ?_
      refine mV hTT (.d (.one (.v (.bool ((((digs4 (Int.natAbs 1)).getD 0 0 : Nat) : Int) == 1))))) rfl ?_
      refine mV hTT _ rfl ?_
      refine mNil ?_
      refine tN ?_
      refine cCond rfl (fun hc2 => ?_) (fun hc2 => ?_)
      · skip
        refine cSeq ?_
        refine cReg ?_
        refine mV hTT (.d (.agg (rn K n))) rfl ?_
        refine mV hTT (.d (.agg (rn 64 1))) rfl ?_
        refine mV hTT (.d (.agg (rn K n ++ rn 64 1))) rfl ?_
        refine mS hTT 4 (.box 68 (rn K n ++ rn 64 1)) rfl ?_
        refine mNil ?_
        refine tN ?_
        refine cRet ?_
        refine tR ?_
        have hq : mkR n d = Rat.divInt n 1 := by unfold mkR; rw [if_pos hd0]
        have h1 : (1 : Int) = 1 := by have h0 := digs1.1 ⟨hl1, Int.ofNat_inj.1 (eq_of_beq hc2)⟩; omega
        have hq1 : mkR n d = Rat.divInt n 1 := hq.trans (congrArg (Rat.divInt n) h1)
        obtain ⟨e1, e2⟩ := mkR_one n
        exact rQ rfl (le_qn2 (by omega) (by omega) (by rw [hq1]; exact e1.symm) (by rw [hq1]; exact h1.trans e2.symm))
      · skip
        refine cSkip ?_
        refine tN ?_
        refine cSeq ?_
        have hD : (0 : Int) < 1 := by omega
        refine cReg ?_
        refine mV hTT (.d (.agg (rn K n))) rfl ?_
        refine mV hTT (.d (.agg (rn 64 1))) rfl ?_
        refine mC0 (aRGcd (isr K n) (isr 64 1) (M := (max K 64)) (by omega) (by omega)) rfl rfl rfl ?_
        refine mN hTT (.box 42 ([.v (.slice none 0 0), .v (.bool false)])) rfl rfl rfl ?_
        refine mS hTT 5 (.box 42 (rn (max K 64) ((Nat.gcd (Int.natAbs n) (Int.natAbs 1) : Nat) : Int))) rfl ?_
        refine mNil ?_
        refine tN ?_
        refine cSeq ?_
        refine cDrawK hTT 7 (by kernel_rfl) (by kernel_rfl) (by kernel_rfl) ?_
        refine .cons (OpS.V (.d (.agg (rn K n))) rfl) ?_
        refine .cons (OpS.V (.d (.agg (rn (max K 64) ((Nat.gcd (Int.natAbs n) (Int.natAbs 1) : Nat) : Int)))) rfl) ?_
        refine .cons (OpS.C0 (aRQuo (isr K n) (isr (max K 64) ((Nat.gcd (Int.natAbs n) (Int.natAbs 1) : Nat) : Int)) (gcd_nz (by omega)) (gcd_dvd_l _ _) (M := K) (by omega) (by omega) (by omega)) rfl rfl rfl) ?_
        refine .cons (OpS.V (.d (.agg (rn 64 1))) rfl) ?_
        refine .cons (OpS.V (.d (.agg (rn (max K 64) ((Nat.gcd (Int.natAbs n) (Int.natAbs 1) : Nat) : Int)))) rfl) ?_
        refine .cons (OpS.C0 (aRQuo (isr 64 1) (isr (max K 64) ((Nat.gcd (Int.natAbs n) (Int.natAbs 1) : Nat) : Int)) (gcd_nz (by omega)) (gcd_dvd_r _ _) (M := 64) (by decide) (by decide) (by omega)) rfl rfl rfl) ?_
        refine .cons (OpS.V (.d (.agg (rn K (n / ((Nat.gcd (Int.natAbs n) (Int.natAbs 1) : Nat) : Int)) ++ rn 64 (1 / ((Nat.gcd (Int.natAbs n) (Int.natAbs 1) : Nat) : Int))))) rfl) ?_
        refine .nil ?_
        refine mS hTT 4 (.box 68 (rn K (n / ((Nat.gcd (Int.natAbs n) (Int.natAbs 1) : Nat) : Int)) ++ rn 64 (1 / ((Nat.gcd (Int.natAbs n) (Int.natAbs 1) : Nat) : Int)))) rfl ?_
        refine mNil ?_
        refine tN ?_
        refine cRet ?_
        have hq : mkR n d = Rat.divInt n 1 := by unfold mkR; rw [if_pos hd0]
        obtain ⟨e1, e2⟩ := mkR_pos (n := n) (d := 1) hD
        exact rQ rfl (le_qn2 (by omega) (by omega) (by rw [hq]; exact e1.symm) (by rw [hq]; exact e2.symm))
    · skip
      refine cReg ?_
      refine mV hTT (.ptr 3 0) rfl ?_
      refine mV hTT (.d (.one (dn 64 (Int.natAbs 1)))) rfl ?_
      refine mV hTT (.d (.one (.v (.int .i64 ((digs4 (Int.natAbs 1)).length : Int))))) rfl ?_
      refine mV hTT (.d (.one (.v (.bool false)))) (evb (beq_eq_false_iff_ne.2 fun e => hl1 (by exact_mod_cast e))) ?_
      refine mV hTT _ rfl ?_
      refine mG rfl rfl ?_
      refine mG rfl rfl ?_
      refine mG rfl rfl ?_
      refine mG rfl rfl ?_
      refine mG rfl rfl ?_
      refine mV hTT _ rfl ?_
      refine mNil ?_
      refine tN ?_
      refine cF rfl ?_
      refine cSkip ?_
      refine tN ?_
      refine cSeq ?_
      have hD : (0 : Int) < 1 := by omega
      refine cReg ?_
      refine mV hTT (.d (.agg (rn K n))) rfl ?_
      refine mV hTT (.d (.agg (rn 64 1))) rfl ?_
      refine mC0 (aRGcd (isr K n) (isr 64 1) (M := (max K 64)) (by omega) (by omega)) rfl rfl rfl ?_
      refine mN hTT (.box 42 ([.v (.slice none 0 0), .v (.bool false)])) rfl rfl rfl ?_
      refine mS hTT 5 (.box 42 (rn (max K 64) ((Nat.gcd (Int.natAbs n) (Int.natAbs 1) : Nat) : Int))) rfl ?_
      refine mNil ?_
      refine tN ?_
      refine cSeq ?_
      refine cDrawK hTT 7 (by kernel_rfl) (by kernel_rfl) (by kernel_rfl) ?_
      refine .cons (OpS.V (.d (.agg (rn K n))) rfl) ?_
      refine .cons (OpS.V (.d (.agg (rn (max K 64) ((Nat.gcd (Int.natAbs n) (Int.natAbs 1) : Nat) : Int)))) rfl) ?_
      refine .cons (OpS.C0 (aRQuo (isr K n) (isr (max K 64) ((Nat.gcd (Int.natAbs n) (Int.natAbs 1) : Nat) : Int)) (gcd_nz (by omega)) (gcd_dvd_l _ _) (M := K) (by omega) (by omega) (by omega)) rfl rfl rfl) ?_
      refine .cons (OpS.V (.d (.agg (rn 64 1))) rfl) ?_
      refine .cons (OpS.V (.d (.agg (rn (max K 64) ((Nat.gcd (Int.natAbs n) (Int.natAbs 1) : Nat) : Int)))) rfl) ?_
      refine .cons (OpS.C0 (aRQuo (isr 64 1) (isr (max K 64) ((Nat.gcd (Int.natAbs n) (Int.natAbs 1) : Nat) : Int)) (gcd_nz (by omega)) (gcd_dvd_r _ _) (M := 64) (by decide) (by decide) (by omega)) rfl rfl rfl) ?_
      refine .cons (OpS.V (.d (.agg (rn K (n / ((Nat.gcd (Int.natAbs n) (Int.natAbs 1) : Nat) : Int)) ++ rn 64 (1 / ((Nat.gcd (Int.natAbs n) (Int.natAbs 1) : Nat) : Int))))) rfl) ?_
      refine .nil ?_
      refine mS hTT 4 (.box 68 (rn K (n / ((Nat.gcd (Int.natAbs n) (Int.natAbs 1) : Nat) : Int)) ++ rn 64 (1 / ((Nat.gcd (Int.natAbs n) (Int.natAbs 1) : Nat) : Int)))) rfl ?_
      refine mNil ?_
      refine tN ?_
      refine cRet ?_
      have hq : mkR n d = Rat.divInt n 1 := by unfold mkR; rw [if_pos hd0]
      obtain ⟨e1, e2⟩ := mkR_pos (n := n) (d := 1) hD
      exact rQ rfl (le_qn2 (by omega) (by omega) (by rw [hq]; exact e1.symm) (by rw [hq]; exact e2.symm))
  · skip
    refine cSkip ?_
    refine tN ?_
    refine cSeq ?_
    refine cSeq ?_
    have hd0 : d ≠ 0 := of_decide_eq_false hc1
    refine cReg ?_
    refine mV hTT (.ptr 3 1) rfl ?_
    refine mV hTT (.d (.one (.v (.bool (decide (d < 0)))))) rfl ?_
    refine mNil ?_
    refine tN ?_
    refine cCond rfl (fun hc3 => ?_) (fun hc3 => ?_)
    · skip
      have hdn : d < 0 := of_decide_eq_true hc3
      refine cDrawK hTT 4 (by kernel_rfl) (by kernel_rfl) (by kernel_rfl) ?_
      refine .cons (OpS.V (.d (.agg (rn K n))) rfl) ?_
      refine .cons (OpS.C0 (aRNeg (isr K n) (M := K) (by omega) (by omega)) rfl rfl rfl) ?_
      refine .cons (OpS.V (.d (.agg (rn L d))) rfl) ?_
      refine .cons (OpS.C0 (aRNeg (isr L d) (M := L) (by omega) (by omega)) rfl rfl rfl) ?_
      refine .nil ?_
      refine mS hTT 2 (.box 42 (rn K (-n))) rfl ?_
      refine mS hTT 3 (.box 42 (rn L (-d))) rfl ?_
      refine mNil ?_
      refine tN ?_
      refine cSeq ?_
      refine cSeq ?_
      by_cases hl1 : (digs4 (Int.natAbs (-d))).length = 1
      · skip
        refine cReg ?_
        refine mV hTT (.ptr 3 0) rfl ?_
        refine mV hTT (.d (.one (dn L (Int.natAbs (-d))))) rfl ?_
        refine mV hTT (.d (.one (.v (.int .i64 ((digs4 (Int.natAbs (-d))).length : Int))))) rfl ?_
        refine mV hTT (.d (.one (.v (.bool true)))) (evb (by rw [hl1]; rfl)) ?_
        refine mV hTT _ rfl ?_
        refine mV hTT (.ptr 3 0) rfl ?_
        refine mV hTT (.d (.one (dn L (Int.natAbs (-d))))) rfl ?_
        refine mView 21 (.d (.one (.row 1 ((digs4 (Int.natAbs (-d))).length) (fun i _ => .v (.int .i64 (((digs4 (Int.natAbs (-d))).getD i 0 : Nat) : Int)))))) rfl (le_drow _ _) ?_
        refine mV hTT (.d (.one (.at 1 ((fun i _ => .v (.int .i64 (((digs4 (Int.natAbs (-d))).getD i 0 : Nat) : Int))) 0)))) (ixR (el := (fun i _ => .v (.int .i64 (((digs4 (Int.natAbs (-d))).getD i 0 : Nat) : Int)))) (z := 0) (n := ((digs4 (Int.natAbs (-d))).length)) rfl rfl rfl rfl rfl rfl (by decide) (by rw [hl1]; decide)) ?_
        refine mV hTT (.d (.one (.v (.int .i64 (((digs4 (Int.natAbs (-d))).getD 0 0 : Nat) : Int))))) rfl ?_
        refine mV hTT (.d (.one (.v (.bool ((((digs4 (Int.natAbs (-d))).getD 0 0 : Nat) : Int) == 1))))) rfl ?_
        refine mV hTT _ rfl ?_
        refine mNil ?_
        refine tN ?_
        refine cCond rfl (fun hc4 => ?_) (fun hc4 => ?_)
        · skip
          refine cSeq ?_
          refine cReg ?_
          refine mV hTT (.d (.agg (rn K (-n)))) rfl ?_
          refine mV hTT (.d (.agg (rn L (-d)))) rfl ?_
          refine mV hTT (.d (.agg (rn K (-n) ++ rn L (-d)))) rfl ?_
          refine mS hTT 4 (.box 68 (rn K (-n) ++ rn L (-d))) rfl ?_
          refine mNil ?_
          refine tN ?_
          refine cRet ?_
          refine tR ?_
          have hq : mkR n d = Rat.divInt (-n) (-d) := by rw [mkR_ne hd0, Rat.neg_divInt_neg]
          have h1 : ((-d) : Int) = 1 := by have h0 := digs1.1 ⟨hl1, Int.ofNat_inj.1 (eq_of_beq hc4)⟩; omega
          have hq1 : mkR n d = Rat.divInt (-n) 1 := hq.trans (congrArg (Rat.divInt (-n)) h1)
          obtain ⟨e1, e2⟩ := mkR_one (-n)
          exact rQ rfl (le_qn2 (by omega) (by omega) (by rw [hq1]; exact e1.symm) (by rw [hq1]; exact h1.trans e2.symm))
        · skip
          refine cSkip ?_
          refine tN ?_
          refine cSeq ?_
          have hD : (0 : Int) < (-d) := by omega
          refine cReg ?_
          refine mV hTT (.d (.agg (rn K (-n)))) rfl ?_
          refine mV hTT (.d (.agg (rn L (-d)))) rfl ?_
          refine mC0 (aRGcd (isr K (-n)) (isr L (-d)) (M := (max K L)) (by omega) (by omega)) rfl rfl rfl ?_
          refine mN hTT (.box 42 ([.v (.slice none 0 0), .v (.bool false)])) rfl rfl rfl ?_
          refine mS hTT 5 (.box 42 (rn (max K L) ((Nat.gcd (Int.natAbs (-n)) (Int.natAbs (-d)) : Nat) : Int))) rfl ?_
          refine mNil ?_
          refine tN ?_
          refine cSeq ?_
          refine cDrawK hTT 7 (by kernel_rfl) (by kernel_rfl) (by kernel_rfl) ?_
          refine .cons (OpS.V (.d (.agg (rn K (-n)))) rfl) ?_
          refine .cons (OpS.V (.d (.agg (rn (max K L) ((Nat.gcd (Int.natAbs (-n)) (Int.natAbs (-d)) : Nat) : Int)))) rfl) ?_
          refine .cons (OpS.C0 (aRQuo (isr K (-n)) (isr (max K L) ((Nat.gcd (Int.natAbs (-n)) (Int.natAbs (-d)) : Nat) : Int)) (gcd_nz (by omega)) (gcd_dvd_l _ _) (M := K) (by omega) (by omega) (by omega)) rfl rfl rfl) ?_
          refine .cons (OpS.V (.d (.agg (rn L (-d)))) rfl) ?_
          refine .cons (OpS.V (.d (.agg (rn (max K L) ((Nat.gcd (Int.natAbs (-n)) (Int.natAbs (-d)) : Nat) : Int)))) rfl) ?_
          refine .cons (OpS.C0 (aRQuo (isr L (-d)) (isr (max K L) ((Nat.gcd (Int.natAbs (-n)) (Int.natAbs (-d)) : Nat) : Int)) (gcd_nz (by omega)) (gcd_dvd_r _ _) (M := L) (by omega) (by omega) (by omega)) rfl rfl rfl) ?_
          refine .cons (OpS.V (.d (.agg (rn K ((-n) / ((Nat.gcd (Int.natAbs (-n)) (Int.natAbs (-d)) : Nat) : Int)) ++ rn L ((-d) / ((Nat.gcd (Int.natAbs (-n)) (Int.natAbs (-d)) : Nat) : Int))))) rfl) ?_
          refine .nil ?_
          refine mS hTT 4 (.box 68 (rn K ((-n) / ((Nat.gcd (Int.natAbs (-n)) (Int.natAbs (-d)) : Nat) : Int)) ++ rn L ((-d) / ((Nat.gcd (Int.natAbs (-n)) (Int.natAbs (-d)) : Nat) : Int)))) rfl ?_
          refine mNil ?_
          refine tN ?_
          refine cRet ?_
          have hq : mkR n d = Rat.divInt (-n) (-d) := by rw [mkR_ne hd0, Rat.neg_divInt_neg]
          obtain ⟨e1, e2⟩ := mkR_pos (n := (-n)) (d := (-d)) hD
          exact rQ rfl (le_qn2 (by omega) (by omega) (by rw [hq]; exact e1.symm) (by rw [hq]; exact e2.symm))
      · skip
        refine cReg ?_
        refine mV hTT (.ptr 3 0) rfl ?_
        refine mV hTT (.d (.one (dn L (Int.natAbs (-d))))) rfl ?_
        refine mV hTT (.d (.one (.v (.int .i64 ((digs4 (Int.natAbs (-d))).length : Int))))) rfl ?_
        refine mV hTT (.d (.one (.v (.bool false)))) (evb (beq_eq_false_iff_ne.2 fun e => hl1 (by exact_mod_cast e))) ?_
        refine mV hTT _ rfl ?_
        refine mG rfl rfl ?_
        refine mG rfl rfl ?_
        refine mG rfl rfl ?_
        refine mG rfl rfl ?_
        refine mG rfl rfl ?_
        refine mV hTT _ rfl ?_
        refine mNil ?_
        refine tN ?_
        refine cF rfl ?_
        refine cSkip ?_
        refine tN ?_
        refine cSeq ?_
        have hD : (0 : Int) < (-d) := by omega
        refine cReg ?_
        refine mV hTT (.d (.agg (rn K (-n)))) rfl ?_
        refine mV hTT (.d (.agg (rn L (-d)))) rfl ?_
        refine mC0 (aRGcd (isr K (-n)) (isr L (-d)) (M := (max K L)) (by omega) (by omega)) rfl rfl rfl ?_
        refine mN hTT (.box 42 ([.v (.slice none 0 0), .v (.bool false)])) rfl rfl rfl ?_
        refine mS hTT 5 (.box 42 (rn (max K L) ((Nat.gcd (Int.natAbs (-n)) (Int.natAbs (-d)) : Nat) : Int))) rfl ?_
        refine mNil ?_
        refine tN ?_
        refine cSeq ?_
        refine cDrawK hTT 7 (by kernel_rfl) (by kernel_rfl) (by kernel_rfl) ?_
        refine .cons (OpS.V (.d (.agg (rn K (-n)))) rfl) ?_
        refine .cons (OpS.V (.d (.agg (rn (max K L) ((Nat.gcd (Int.natAbs (-n)) (Int.natAbs (-d)) : Nat) : Int)))) rfl) ?_
        refine .cons (OpS.C0 (aRQuo (isr K (-n)) (isr (max K L) ((Nat.gcd (Int.natAbs (-n)) (Int.natAbs (-d)) : Nat) : Int)) (gcd_nz (by omega)) (gcd_dvd_l _ _) (M := K) (by omega) (by omega) (by omega)) rfl rfl rfl) ?_
        refine .cons (OpS.V (.d (.agg (rn L (-d)))) rfl) ?_
        refine .cons (OpS.V (.d (.agg (rn (max K L) ((Nat.gcd (Int.natAbs (-n)) (Int.natAbs (-d)) : Nat) : Int)))) rfl) ?_
        refine .cons (OpS.C0 (aRQuo (isr L (-d)) (isr (max K L) ((Nat.gcd (Int.natAbs (-n)) (Int.natAbs (-d)) : Nat) : Int)) (gcd_nz (by omega)) (gcd_dvd_r _ _) (M := L) (by omega) (by omega) (by omega)) rfl rfl rfl) ?_
        refine .cons (OpS.V (.d (.agg (rn K ((-n) / ((Nat.gcd (Int.natAbs (-n)) (Int.natAbs (-d)) : Nat) : Int)) ++ rn L ((-d) / ((Nat.gcd (Int.natAbs (-n)) (Int.natAbs (-d)) : Nat) : Int))))) rfl) ?_
        refine .nil ?_
        refine mS hTT 4 (.box 68 (rn K ((-n) / ((Nat.gcd (Int.natAbs (-n)) (Int.natAbs (-d)) : Nat) : Int)) ++ rn L ((-d) / ((Nat.gcd (Int.natAbs (-n)) (Int.natAbs (-d)) : Nat) : Int)))) rfl ?_
        refine mNil ?_
        refine tN ?_
        refine cRet ?_
        have hq : mkR n d = Rat.divInt (-n) (-d) := by rw [mkR_ne hd0, Rat.neg_divInt_neg]
        obtain ⟨e1, e2⟩ := mkR_pos (n := (-n)) (d := (-d)) hD
        exact rQ rfl (le_qn2 (by omega) (by omega) (by rw [hq]; exact e1.symm) (by rw [hq]; exact e2.symm))
    · skip
      refine cSkip ?_
      refine tN ?_
      refine cSeq ?_
      refine cSeq ?_
      have hdp : 0 < d := by have h0 := of_decide_eq_false hc3; omega
      by_cases hl1 : (digs4 d.natAbs).length = 1
      · skip
        refine cReg ?_
        refine mV hTT (.ptr 3 0) rfl ?_
        refine mV hTT (.d (.one (dn L d.natAbs))) rfl ?_
        refine mV hTT (.d (.one (.v (.int .i64 ((digs4 d.natAbs).length : Int))))) rfl ?_
        refine mV hTT (.d (.one (.v (.bool true)))) (evb (by rw [hl1]; rfl)) ?_
        refine mV hTT _ rfl ?_
        refine mV hTT (.ptr 3 0) rfl ?_
        refine mV hTT (.d (.one (dn L d.natAbs))) rfl ?_
        refine mView 21 (.d (.one (.row 1 ((digs4 d.natAbs).length) (fun i _ => .v (.int .i64 (((digs4 d.natAbs).getD i 0 : Nat) : Int)))))) rfl (le_drow _ _) ?_
        refine mV hTT (.d (.one (.at 1 ((fun i _ => .v (.int .i64 (((digs4 d.natAbs).getD i 0 : Nat) : Int))) 0)))) (ixR (el := (fun i _ => .v (.int .i64 (((digs4 d.natAbs).getD i 0 : Nat) : Int)))) (z := 0) (n := ((digs4 d.natAbs).length)) rfl rfl rfl rfl rfl rfl (by decide) (by rw [hl1]; decide)) ?_
        refine mV hTT (.d (.one (.v (.int .i64 (((digs4 d.natAbs).getD 0 0 : Nat) : Int))))) rfl ?_
        refine mV hTT (.d (.one (.v (.bool ((((digs4 d.natAbs).getD 0 0 : Nat) : Int) == 1))))) rfl ?_
        refine mV hTT _ rfl ?_
        refine mNil ?_
        refine tN ?_
        refine cCond rfl (fun hc5 => ?_) (fun hc5 => ?_)
        · skip
          refine cSeq ?_
          refine cReg ?_
          refine mV hTT (.d (.agg (rn K n))) rfl ?_
          refine mV hTT (.d (.agg (rn L d))) rfl ?_
          refine mV hTT (.d (.agg (rn K n ++ rn L d))) rfl ?_
          refine mS hTT 4 (.box 68 (rn K n ++ rn L d)) rfl ?_
          refine mNil ?_
          refine tN ?_
          refine cRet ?_
          refine tR ?_
          have hq : mkR n d = Rat.divInt n d := mkR_ne hd0
          have h1 : (d : Int) = 1 := by have h0 := digs1.1 ⟨hl1, Int.ofNat_inj.1 (eq_of_beq hc5)⟩; omega
          have hq1 : mkR n d = Rat.divInt n 1 := hq.trans (congrArg (Rat.divInt n) h1)
          obtain ⟨e1, e2⟩ := mkR_one n
          exact rQ rfl (le_qn2 (by omega) (by omega) (by rw [hq1]; exact e1.symm) (by rw [hq1]; exact h1.trans e2.symm))
        · skip
          refine cSkip ?_
          refine tN ?_
          refine cSeq ?_
          have hD : (0 : Int) < d := by omega
          refine cReg ?_
          refine mV hTT (.d (.agg (rn K n))) rfl ?_
          refine mV hTT (.d (.agg (rn L d))) rfl ?_
          refine mC0 (aRGcd (isr K n) (isr L d) (M := (max K L)) (by omega) (by omega)) rfl rfl rfl ?_
          refine mN hTT (.box 42 ([.v (.slice none 0 0), .v (.bool false)])) rfl rfl rfl ?_
          refine mS hTT 5 (.box 42 (rn (max K L) ((Nat.gcd (Int.natAbs n) (Int.natAbs d) : Nat) : Int))) rfl ?_
          refine mNil ?_
          refine tN ?_
          refine cSeq ?_
          refine cDrawK hTT 7 (by kernel_rfl) (by kernel_rfl) (by kernel_rfl) ?_
          refine .cons (OpS.V (.d (.agg (rn K n))) rfl) ?_
          refine .cons (OpS.V (.d (.agg (rn (max K L) ((Nat.gcd (Int.natAbs n) (Int.natAbs d) : Nat) : Int)))) rfl) ?_
          refine .cons (OpS.C0 (aRQuo (isr K n) (isr (max K L) ((Nat.gcd (Int.natAbs n) (Int.natAbs d) : Nat) : Int)) (gcd_nz (by omega)) (gcd_dvd_l _ _) (M := K) (by omega) (by omega) (by omega)) rfl rfl rfl) ?_
          refine .cons (OpS.V (.d (.agg (rn L d))) rfl) ?_
          refine .cons (OpS.V (.d (.agg (rn (max K L) ((Nat.gcd (Int.natAbs n) (Int.natAbs d) : Nat) : Int)))) rfl) ?_
          refine .cons (OpS.C0 (aRQuo (isr L d) (isr (max K L) ((Nat.gcd (Int.natAbs n) (Int.natAbs d) : Nat) : Int)) (gcd_nz (by omega)) (gcd_dvd_r _ _) (M := L) (by omega) (by omega) (by omega)) rfl rfl rfl) ?_
          refine .cons (OpS.V (.d (.agg (rn K (n / ((Nat.gcd (Int.natAbs n) (Int.natAbs d) : Nat) : Int)) ++ rn L (d / ((Nat.gcd (Int.natAbs n) (Int.natAbs d) : Nat) : Int))))) rfl) ?_
          refine .nil ?_
          refine mS hTT 4 (.box 68 (rn K (n / ((Nat.gcd (Int.natAbs n) (Int.natAbs d) : Nat) : Int)) ++ rn L (d / ((Nat.gcd (Int.natAbs n) (Int.natAbs d) : Nat) : Int)))) rfl ?_
          refine mNil ?_
          refine tN ?_
          refine cRet ?_
          have hq : mkR n d = Rat.divInt n d := mkR_ne hd0
          obtain ⟨e1, e2⟩ := mkR_pos (n := n) (d := d) hD
          exact rQ rfl (le_qn2 (by omega) (by omega) (by rw [hq]; exact e1.symm) (by rw [hq]; exact e2.symm))
      · skip
        refine cReg ?_
        refine mV hTT (.ptr 3 0) rfl ?_
        refine mV hTT (.d (.one (dn L d.natAbs))) rfl ?_
        refine mV hTT (.d (.one (.v (.int .i64 ((digs4 d.natAbs).length : Int))))) rfl ?_
        refine mV hTT (.d (.one (.v (.bool false)))) (evb (beq_eq_false_iff_ne.2 fun e => hl1 (by exact_mod_cast e))) ?_
        refine mV hTT _ rfl ?_
        refine mG rfl rfl ?_
        refine mG rfl rfl ?_
        refine mG rfl rfl ?_
        refine mG rfl rfl ?_
        refine mG rfl rfl ?_
        refine mV hTT _ rfl ?_
        refine mNil ?_
        refine tN ?_
        refine cF rfl ?_
        refine cSkip ?_
        refine tN ?_
        refine cSeq ?_
        have hD : (0 : Int) < d := by omega
        refine cReg ?_
        refine mV hTT (.d (.agg (rn K n))) rfl ?_
        refine mV hTT (.d (.agg (rn L d))) rfl ?_
        refine mC0 (aRGcd (isr K n) (isr L d) (M := (max K L)) (by omega) (by omega)) rfl rfl rfl ?_
        refine mN hTT (.box 42 ([.v (.slice none 0 0), .v (.bool false)])) rfl rfl rfl ?_
        refine mS hTT 5 (.box 42 (rn (max K L) ((Nat.gcd (Int.natAbs n) (Int.natAbs d) : Nat) : Int))) rfl ?_
        refine mNil ?_
        refine tN ?_
        refine cSeq ?_
        refine cDrawK hTT 7 (by kernel_rfl) (by kernel_rfl) (by kernel_rfl) ?_
        refine .cons (OpS.V (.d (.agg (rn K n))) rfl) ?_
        refine .cons (OpS.V (.d (.agg (rn (max K L) ((Nat.gcd (Int.natAbs n) (Int.natAbs d) : Nat) : Int)))) rfl) ?_
        refine .cons (OpS.C0 (aRQuo (isr K n) (isr (max K L) ((Nat.gcd (Int.natAbs n) (Int.natAbs d) : Nat) : Int)) (gcd_nz (by omega)) (gcd_dvd_l _ _) (M := K) (by omega) (by omega) (by omega)) rfl rfl rfl) ?_
        refine .cons (OpS.V (.d (.agg (rn L d))) rfl) ?_
        refine .cons (OpS.V (.d (.agg (rn (max K L) ((Nat.gcd (Int.natAbs n) (Int.natAbs d) : Nat) : Int)))) rfl) ?_
        refine .cons (OpS.C0 (aRQuo (isr L d) (isr (max K L) ((Nat.gcd (Int.natAbs n) (Int.natAbs d) : Nat) : Int)) (gcd_nz (by omega)) (gcd_dvd_r _ _) (M := L) (by omega) (by omega) (by omega)) rfl rfl rfl) ?_
        refine .cons (OpS.V (.d (.agg (rn K (n / ((Nat.gcd (Int.natAbs n) (Int.natAbs d) : Nat) : Int)) ++ rn L (d / ((Nat.gcd (Int.natAbs n) (Int.natAbs d) : Nat) : Int))))) rfl) ?_
        refine .nil ?_
        refine mS hTT 4 (.box 68 (rn K (n / ((Nat.gcd (Int.natAbs n) (Int.natAbs d) : Nat) : Int)) ++ rn L (d / ((Nat.gcd (Int.natAbs n) (Int.natAbs d) : Nat) : Int)))) rfl ?_
        refine mNil ?_
        refine tN ?_
        refine cRet ?_
        have hq : mkR n d = Rat.divInt n d := mkR_ne hd0
        obtain ⟨e1, e2⟩ := mkR_pos (n := n) (d := d) hD
        exact rQ rfl (le_qn2 (by omega) (by omega) (by rw [hq]; exact e1.symm) (by rw [hq]; exact e2.symm))

set_option maxRecDepth 100000 in
set_option maxHeartbeats 4000000 in
theorem aROfR {n d : Int} (h1 : -9223372036854775808 ≤ n := by decide) (h2 : n ≤ 9223372036854775807 := by decide) (h3 : -9223372036854775808 ≤ d := by decide) (h4 : d ≤ 9223372036854775807 := by decide) : ACall Try.prog 59 [.one (.v (.int .i64 n)), .one (.v (.int .i64 d))] (.d (.agg (qn 64 (mkR n d)))) := by
  refine acallN hTT 10 [.cell 4 68] Try.func59 rfl rfl rfl rfl rfl ?_
  refine cSeq ?_
  refine cReg ?_
  refine mN hTT (.box 68 ([.v (.slice none 0 0), .v (.bool false), .v (.slice none 0 0), .v (.bool false)])) rfl rfl rfl ?_
  refine mNil ?_
  refine tN ?_
  refine cSeq ?_
  refine cReg ?_
  refine mV hTT _ rfl ?_
  refine mC0 (aROf (n := n) h1 h2) rfl rfl rfl ?_
  refine mV hTT _ rfl ?_
  refine mC0 (aROf (n := d) h3 h4) rfl rfl rfl ?_
  refine mC0 (aRMake (isr 64 n) (isr 64 d) (M := 64) (by decide) (by decide)) rfl rfl rfl ?_
  refine mS hTT 4 (.box 68 (qn 64 (mkR n d))) rfl ?_
  refine mNil ?_
  refine tN ?_
  refine cRet ?_
  exact rQ rfl (AV.le.rfl)

theorem aROfI {n : Int} (h1 : -9223372036854775808 ≤ n := by decide) (h2 : n ≤ 9223372036854775807 := by decide) : ACall Try.prog 59 [.one (.v (.int .i64 n)), .one (.v (.int .i64 1))] (.d (.agg (qn 64 (n : Rat)))) := by
  have h := aROfR (d := 1) h1 h2 (by decide) (by decide)
  rw [mkR_int] at h; exact h
set_option maxRecDepth 100000 in
set_option maxHeartbeats 4000000 in
theorem aRAddR {a b : List Lf} {K L M : Nat} {x y : Rat} (ha : IsQ a K x) (hb : IsQ b L y) (hM : max (K + L + 1) 64 ≤ M := by decide) (hMM : M ≤ 10000000 := by decide) : ACall Try.prog 54 [.agg a, .agg b] (.d (.agg (qn M (x + y)))) := by
  refine ACall.le (dl (DV.g ha) (dl (DV.g hb) dl0)) AV.le.rfl ?_
  refine acallN hTT 22 [.cell 4 68] Try.func54 rfl rfl rfl rfl rfl ?_
  refine cSeq ?_
  refine cReg ?_
  refine mN hTT (.box 68 (rn K x.num ++ rn K (x.den : Int))) rfl rfl rfl ?_
  refine mN hTT (.box 68 (rn L y.num ++ rn L (y.den : Int))) rfl rfl rfl ?_
  refine mN hTT (.box 68 ([.v (.slice none 0 0), .v (.bool false), .v (.slice none 0 0), .v (.bool false)])) rfl rfl rfl ?_
  refine mNil ?_
  refine tN ?_
  refine cSeq ?_
  refine cDrawK hTT 17 (by kernel_rfl) (by kernel_rfl) (by kernel_rfl) ?_
  refine .cons (OpS.V (.ptr 2 0) rfl) ?_
  refine .cons (OpS.V (.d (.agg (rn K x.num))) rfl) ?_
  refine .cons (OpS.V (.ptr 3 2) rfl) ?_
  refine .cons (OpS.V (.d (.agg (rn L (y.den : Int)))) rfl) ?_
  refine .cons (OpS.C0 (aRMul (isr K x.num) (isr L (y.den : Int)) (M := (K + L)) (by omega) (by omega) (by omega)) rfl rfl rfl) ?_
  refine .cons (OpS.V (.ptr 3 0) rfl) ?_
  refine .cons (OpS.V (.d (.agg (rn L y.num))) rfl) ?_
  refine .cons (OpS.V (.ptr 2 2) rfl) ?_
  refine .cons (OpS.V (.d (.agg (rn K (x.den : Int)))) rfl) ?_
  refine .cons (OpS.C0 (aRMul (isr L y.num) (isr K (x.den : Int)) (M := (L + K)) (by omega) (by omega) (by omega)) rfl rfl rfl) ?_
  refine .cons (OpS.C0 (aRAdd (isr (K + L) (x.num * (y.den : Int))) (isr (L + K) (y.num * (x.den : Int))) (M := (max (K + L) (L + K) + 1)) (by omega) (by omega) (by omega)) rfl rfl rfl) ?_
  refine .cons (OpS.V (.ptr 2 2) rfl) ?_
  refine .cons (OpS.V (.d (.agg (rn K (x.den : Int)))) rfl) ?_
  refine .cons (OpS.V (.ptr 3 2) rfl) ?_
  refine .cons (OpS.V (.d (.agg (rn L (y.den : Int)))) rfl) ?_
  refine .cons (OpS.C0 (aRMul (isr K (x.den : Int)) (isr L (y.den : Int)) (M := (K + L)) (by omega) (by omega) (by omega)) rfl rfl rfl) ?_
  refine .cons (OpS.C0 (aRMake (isr (max (K + L) (L + K) + 1) ((x.num * (y.den : Int)) + (y.num * (x.den : Int)))) (isr (K + L) ((x.den : Int) * (y.den : Int))) (M := (max (max (K + L) (L + K) + 1) (max (K + L) 64))) (by omega) (by omega)) rfl rfl rfl) ?_
  refine .nil ?_
  refine mS hTT 4 (.box 68 (qn (max (max (K + L) (L + K) + 1) (max (K + L) 64)) (mkR ((x.num * (y.den : Int)) + (y.num * (x.den : Int))) ((x.den : Int) * (y.den : Int))))) rfl ?_
  refine mNil ?_
  refine tN ?_
  refine cRet ?_
  exact rQ rfl (le_qn (by omega) (mkR_add x y))

set_option maxRecDepth 100000 in
set_option maxHeartbeats 4000000 in
theorem aRMulR {a b : List Lf} {K L M : Nat} {x y : Rat} (ha : IsQ a K x) (hb : IsQ b L y) (hM : max (K + L + 1) 64 ≤ M := by decide) (hMM : M ≤ 10000000 := by decide) : ACall Try.prog 62 [.agg a, .agg b] (.d (.agg (qn M (x * y)))) := by
  refine ACall.le (dl (DV.g ha) (dl (DV.g hb) dl0)) AV.le.rfl ?_
  refine acallN hTT 16 [.cell 4 68] Try.func62 rfl rfl rfl rfl rfl ?_
  refine cSeq ?_
  refine cReg ?_
  refine mN hTT (.box 68 (rn K x.num ++ rn K (x.den : Int))) rfl rfl rfl ?_
  refine mN hTT (.box 68 (rn L y.num ++ rn L (y.den : Int))) rfl rfl rfl ?_
  refine mN hTT (.box 68 ([.v (.slice none 0 0), .v (.bool false), .v (.slice none 0 0), .v (.bool false)])) rfl rfl rfl ?_
  refine mNil ?_
  refine tN ?_
  refine cSeq ?_
  refine cDrawK hTT 11 (by kernel_rfl) (by kernel_rfl) (by kernel_rfl) ?_
  refine .cons (OpS.V (.ptr 2 0) rfl) ?_
  refine .cons (OpS.V (.d (.agg (rn K x.num))) rfl) ?_
  refine .cons (OpS.V (.ptr 3 0) rfl) ?_
  refine .cons (OpS.V (.d (.agg (rn L y.num))) rfl) ?_
  refine .cons (OpS.C0 (aRMul (isr K x.num) (isr L y.num) (M := (K + L)) (by omega) (by omega) (by omega)) rfl rfl rfl) ?_
  refine .cons (OpS.V (.ptr 2 2) rfl) ?_
  refine .cons (OpS.V (.d (.agg (rn K (x.den : Int)))) rfl) ?_
  refine .cons (OpS.V (.ptr 3 2) rfl) ?_
  refine .cons (OpS.V (.d (.agg (rn L (y.den : Int)))) rfl) ?_
  refine .cons (OpS.C0 (aRMul (isr K (x.den : Int)) (isr L (y.den : Int)) (M := (K + L)) (by omega) (by omega) (by omega)) rfl rfl rfl) ?_
  refine .cons (OpS.C0 (aRMake (isr (K + L) (x.num * y.num)) (isr (K + L) ((x.den : Int) * (y.den : Int))) (M := (max (K + L) (max (K + L) 64))) (by omega) (by omega)) rfl rfl rfl) ?_
  refine .nil ?_
  refine mS hTT 4 (.box 68 (qn (max (K + L) (max (K + L) 64)) (mkR (x.num * y.num) ((x.den : Int) * (y.den : Int))))) rfl ?_
  refine mNil ?_
  refine tN ?_
  refine cRet ?_
  exact rQ rfl (le_qn (by omega) (mkR_mul x y))

end Go.Proofs.Ytlkdlicbhhackaa

/-
  THE LAWS of chapter 2, by the machine: of, is, wakes; WholeGcds.
-/
set_option linter.unusedVariables false
set_option linter.unusedSimpArgs false
namespace Go.Proofs.Ytlkdlicbhhackaa
open Go.RowKit

set_option maxRecDepth 100000 in
set_option maxHeartbeats 4000000 in
theorem aKInt {K k : Nat} {s : Bool} {xs : List Nat} (hk : k ≤ 1000000 := by decide) (hK : K ≤ 9223372036854775807 := by decide) : ACall Try.prog 69 [.agg [.v (.bool s), lr K xs], .one (.v (.int .i64 (k : Int)))] (.d (.agg [.v (.bool s), lr k (xs.take k)])) := by
  refine acallN hTT 12 [.cell 4 36] Try.func69 rfl rfl rfl rfl rfl ?_
  refine cSeq ?_
  refine cReg ?_
  refine mN hTT (.box 36 ([.v (.bool s), lr K xs])) rfl rfl rfl ?_
  refine mN hTT (.box 36 ([.v (.bool false), .v (.slice none 0 0)])) rfl rfl rfl ?_
  refine mNil ?_
  refine tN ?_
  refine cSeq ?_
  refine cDrawK hTT 7 (by kernel_rfl) (by kernel_rfl) (by kernel_rfl) ?_
  refine .cons (OpS.V (.ptr 2 0) rfl) ?_
  refine .cons (OpS.V (.d (.one (.v (.bool s)))) rfl) ?_
  refine .cons (OpS.V (.ptr 2 1) rfl) ?_
  refine .cons (OpS.V (.d (.one (lr K xs))) rfl) ?_
  refine .cons (OpS.V _ rfl) ?_
  refine .cons (OpS.C0 (aRow (K := K) (k := k) (xs := xs) (by omega) (by omega)) rfl rfl rfl) ?_
  refine .cons (OpS.V (.d (.agg ([.v (.bool s), lr k (xs.take k)]))) rfl) ?_
  refine .nil ?_
  refine mS hTT 4 (.box 36 ([.v (.bool s), lr k (xs.take k)])) rfl ?_
  refine mNil ?_
  refine tN ?_
  refine cRet ?_
  exact rQ rfl (AV.le.rfl)

set_option maxRecDepth 100000 in
set_option maxHeartbeats 4000000 in
theorem aOf2 {K k : Nat} {s : Bool} {xs : List Nat} (hk : k ≤ 100000 := by decide) (hK : K ≤ 9223372036854775807 := by decide) : ACall Try.prog 24 [.agg [.v (.bool s), lr K xs], .one (.v (.int .i64 (k : Int)))] (.tup [.agg [.v (.bool s), lr k (xs.take k)], .agg (rn (3 * k) (zv s (val (xs.take k))))]) := by
  refine acallN hTT 12 [.cell 4 36, .cell 5 42] Try.func24 rfl rfl rfl rfl rfl ?_
  refine cSeq ?_
  refine cReg ?_
  refine mN hTT (.box 36 ([.v (.bool s), lr K xs])) rfl rfl rfl ?_
  refine mN hTT (.box 36 ([.v (.bool false), .v (.slice none 0 0)])) rfl rfl rfl ?_
  refine mN hTT (.box 42 ([.v (.slice none 0 0), .v (.bool false)])) rfl rfl rfl ?_
  refine mNil ?_
  refine tN ?_
  refine cSeq ?_
  refine cReg ?_
  refine mV hTT (.d (.agg ([.v (.bool s), lr K xs]))) rfl ?_
  refine mV hTT _ rfl ?_
  refine mC0 (aKInt (K := K) (k := k) (s := s) (xs := xs) (by omega) (by omega)) rfl rfl rfl ?_
  refine mS hTT 2 (.box 36 ([.v (.bool s), lr k (xs.take k)])) rfl ?_
  refine mNil ?_
  refine tN ?_
  refine cSeq ?_
  refine cDrawK hTT 3 (by kernel_rfl) (by kernel_rfl) (by kernel_rfl) ?_
  refine .cons (OpS.V (.d (.agg ([.v (.bool s), lr k (xs.take k)]))) rfl) ?_
  refine .cons (OpS.V (.d (.agg ([.v (.bool s), lr k (xs.take k)]))) rfl) ?_
  refine .cons (OpS.C0 (aRFrom (iszr k s (xs.take k)) (M := (3 * k)) (by omega) (by omega)) rfl rfl rfl) ?_
  refine .nil ?_
  refine mS hTT 4 (.box 36 ([.v (.bool s), lr k (xs.take k)])) rfl ?_
  refine mS hTT 5 (.box 42 (rn (3 * k) (zv s (val (xs.take k))))) rfl ?_
  refine mNil ?_
  refine tN ?_
  refine cRet ?_
  exact rQ rfl (le_tup (dl DV.same (dl (dle (le_rn (by omega) rfl)) dl0)))

set_option maxRecDepth 100000 in
set_option maxHeartbeats 4000000 in
theorem aIs2 {a b : List Lf} {K L : Nat} {x : Int} (ha : IsR a K x) (hb : IsN b L x) (hK : K ≤ 1000000000 := by decide) (hL : L ≤ 1000000000 := by decide) : ACall Try.prog 27 [.agg a, .agg b] (.d (.one (.v (.bool true)))) := by
  refine ACall.le (dl (DV.g ha) (dl (DV.g hb) dl0)) AV.le.rfl ?_
  refine acallN hTT 8 [.tmp 4] Try.func27 rfl rfl rfl rfl rfl ?_
  refine cSeq ?_
  refine cReg ?_
  refine mN hTT (.box 42 (rn K x)) rfl rfl rfl ?_
  refine mN hTT (.box 36 (zn L x)) rfl rfl rfl ?_
  refine mV hTT _ rfl ?_
  refine mNil ?_
  refine tN ?_
  refine cSeq ?_
  refine cReg ?_
  refine mV hTT (.d (.agg (rn K x))) rfl ?_
  refine mV hTT (.d (.agg (zn L x))) rfl ?_
  refine mC0 (aRSame (isr K x) (isn L x) (by omega) (by omega)) rfl rfl rfl ?_
  refine mV hTT _ rfl ?_
  refine mNil ?_
  refine tN ?_
  refine cRet ?_
  exact rQ rfl (AV.le.rfl)

set_option maxRecDepth 100000 in
set_option maxHeartbeats 4000000 in
theorem aWakes : ACall Try.prog 40 [] (.d (.one (.v (.bool true)))) := by
  refine acallN hTT 23 [.tmp 0] Try.func40 rfl rfl rfl rfl rfl ?_
  refine cSeq ?_
  refine cReg ?_
  refine mV hTT _ rfl ?_
  refine mNil ?_
  refine tN ?_
  refine cSeq ?_
  refine cReg ?_
  refine mC0 (aOf (n := (-7)) (by decide) (by decide)) rfl rfl rfl ?_
  refine mC0 (aOf (n := 2) (by decide) (by decide)) rfl rfl rfl ?_
  refine mC0 (aDivMod (isz 2 (-7)) (isz 2 2) (by decide) (M := 3) (by decide) (by decide) (by decide)) rfl rfl rfl ?_
  refine mV hTT _ rfl ?_
  refine mV hTT _ rfl ?_
  refine mV hTT _ rfl ?_
  refine mV hTT _ rfl ?_
  refine mN hTT (.box 36 ([.v (.bool false), .v (.slice none 0 0)])) rfl rfl rfl ?_
  refine mN hTT (.box 36 ([.v (.bool false), .v (.slice none 0 0)])) rfl rfl rfl ?_
  refine mS hTT 1 (.box 36 (zn 3 ((-7) / 2))) rfl ?_
  refine mS hTT 2 (.box 36 (zn 2 ((-7) % 2))) rfl ?_
  refine mV hTT _ rfl ?_
  refine mNil ?_
  refine tN ?_
  refine cSeq ?_
  refine cDrawK hTT 13 (by kernel_rfl) (by kernel_rfl) (by kernel_rfl) ?_
  refine .cons (OpS.V _ rfl) ?_
  refine .cons (OpS.V (.d (.one (.v (.bool true)))) rfl) ?_
  refine .cons (OpS.V _ rfl) ?_
  refine .cons (OpS.C0 (aROf (n := (-4)) (by decide) (by decide)) rfl rfl rfl) ?_
  refine .cons (OpS.V (.d (.agg (zn 3 ((-7) / 2)))) rfl) ?_
  refine .cons (OpS.C0 (aIs2 (IsR.eq (isr 64 (-4)) (by decide)) (isn 3 ((-7) / 2)) (by decide) (by decide)) rfl rfl rfl) ?_
  refine .cons (OpS.V _ rfl) ?_
  refine .cons (OpS.V _ rfl) ?_
  refine .cons (OpS.C0 (aROf (n := 1) (by decide) (by decide)) rfl rfl rfl) ?_
  refine .cons (OpS.V (.d (.agg (zn 2 ((-7) % 2)))) rfl) ?_
  refine .cons (OpS.C0 (aIs2 (IsR.eq (isr 64 1) (by decide)) (isn 2 ((-7) % 2)) (by decide) (by decide)) rfl rfl rfl) ?_
  refine .cons (OpS.V _ rfl) ?_
  refine .cons (OpS.V _ rfl) ?_
  refine .nil ?_
  refine mNil ?_
  refine tN ?_
  refine cRet ?_
  exact rQ rfl (AV.le.rfl)

theorem gcdN_congr {c d : Nat → Int} : ∀ {n : Nat}, (∀ i, i < n → c i = d i) → gcdN c n = gcdN d n
  | 0, _ => rfl
  | n + 1, h => by show Nat.gcd (gcdN c n) _ = Nat.gcd (gcdN d n) _; rw [gcdN_congr (fun i hi => h i (by omega)), h n (by omega)]
end Go.Proofs.Ytlkdlicbhhackaa

/-
  WholeSums by the machine.
-/
set_option linter.unusedVariables false
set_option linter.unusedSimpArgs false
namespace Go.Proofs.Ytlkdlicbhhackaa
open Go.RowKit

theorem isr_abs (K m : Nat) : IsR [dn K m, .v (.bool false)] K (m : Int) := by
  intro B w cs h
  have e : decide ((m : Int) < 0) = false := decide_eq_false (by omega)
  unfold rn
  rw [e, Int.natAbs_natCast]
  exact h
set_option maxRecDepth 100000 in
set_option maxHeartbeats 4000000 in
theorem aWholeSums {K1 K2 : Nat} {s1 s2 : Bool} {xs1 xs2 : List Nat} (hK1 : K1 ≤ 9223372036854775807) (hK2 : K2 ≤ 9223372036854775807) : ACall Try.prog 4 [.agg [.v (.bool s1), lr K1 xs1], .agg [.v (.bool s2), lr K2 xs2]] (.d (.one (.v (.bool true)))) := by
  refine acallN hTT 121 [.tmp 4] Try.func4 rfl rfl rfl rfl rfl ?_
  refine cSeq ?_
  refine cReg ?_
  refine mN hTT (.box 36 ([.v (.bool s1), lr K1 xs1])) rfl rfl rfl ?_
  refine mN hTT (.box 36 ([.v (.bool s2), lr K2 xs2])) rfl rfl rfl ?_
  refine mV hTT _ rfl ?_
  refine mNil ?_
  refine tN ?_
  refine cSeq ?_
  refine cReg ?_
  refine mV hTT (.d (.agg ([.v (.bool s1), lr K1 xs1]))) rfl ?_
  refine mC0 (aOf2 (K := K1) (k := 16) (s := s1) (xs := xs1) (by decide) (by omega)) rfl rfl rfl ?_
  refine mV hTT _ rfl ?_
  refine mV hTT _ rfl ?_
  refine mV hTT _ rfl ?_
  refine mN hTT (.box 42 ([.v (.slice none 0 0), .v (.bool false)])) rfl rfl rfl ?_
  refine mS hTT 2 (.box 36 ([.v (.bool s1), lr 16 (xs1.take 16)])) rfl ?_
  refine mS hTT 5 (.box 42 (rn 48 (zv s1 (val (xs1.take 16))))) rfl ?_
  refine mNil ?_
  refine tN ?_
  refine cSeq ?_
  refine cReg ?_
  refine mV hTT (.d (.agg ([.v (.bool s2), lr K2 xs2]))) rfl ?_
  refine mC0 (aOf2 (K := K2) (k := 16) (s := s2) (xs := xs2) (by decide) (by omega)) rfl rfl rfl ?_
  refine mV hTT _ rfl ?_
  refine mV hTT _ rfl ?_
  refine mV hTT _ rfl ?_
  refine mN hTT (.box 42 ([.v (.slice none 0 0), .v (.bool false)])) rfl rfl rfl ?_
  refine mS hTT 3 (.box 36 ([.v (.bool s2), lr 16 (xs2.take 16)])) rfl ?_
  refine mS hTT 6 (.box 42 (rn 48 (zv s2 (val (xs2.take 16))))) rfl ?_
  refine mNil ?_
  refine tN ?_
  refine cSeq ?_
  refine cDrawK hTT 8 (by kernel_rfl) (by kernel_rfl) (by kernel_rfl) ?_
  refine .cons (OpS.V (.ptr 2 1) rfl) ?_
  refine .cons (OpS.V (.d (.one (lr 16 (xs1.take 16)))) rfl) ?_
  refine .cons (OpS.C0 (aLend (K := 16) (xs := (xs1.take 16)) (by decide)) rfl rfl rfl) ?_
  refine .cons (OpS.V (.ptr 3 1) rfl) ?_
  refine .cons (OpS.V (.d (.one (lr 16 (xs2.take 16)))) rfl) ?_
  refine .cons (OpS.C0 (aLend (K := 16) (xs := (xs2.take 16)) (by decide)) rfl rfl rfl) ?_
  refine .cons (OpS.V _ rfl) ?_
  refine .cons (OpS.V _ rfl) ?_
  refine .nil ?_
  refine mNil ?_
  refine tN ?_
  refine cSeq ?_
  refine cDrawS hTT 12 (by kernel_rfl) (by kernel_rfl) ?_
  refine .cons (OpS.V (.ptr 2 0) rfl) (by kernel_rfl) ?_
  refine .cons (OpS.V (.d (.one (.v (.bool s1)))) rfl) (by kernel_rfl) ?_
  refine .cons (OpS.V _ rfl) (by kernel_rfl) ?_
  refine .cons (OpS.V (.d (.agg ([.v (.bool s1), lentL 16 (xs1.take 16)]))) rfl) (by kernel_rfl) ?_
  refine .cons (OpS.V (.ptr 3 0) rfl) (by kernel_rfl) ?_
  refine .cons (OpS.V (.d (.one (.v (.bool s2)))) rfl) (by kernel_rfl) ?_
  refine .cons (OpS.V _ rfl) (by kernel_rfl) ?_
  refine .cons (OpS.V (.d (.agg ([.v (.bool s2), lentL 16 (xs2.take 16)]))) rfl) (by kernel_rfl) ?_
  refine .cons (OpS.N (.box 36 ([.v (.bool false), .v (.slice none 0 0)])) rfl 9 rfl rfl) (by kernel_rfl) ?_
  refine .cons (OpS.N (.box 36 ([.v (.bool false), .v (.slice none 0 0)])) rfl 10 rfl rfl) (by kernel_rfl) ?_
  refine .cons (OpS.S 9 (.box 36 ([.v (.bool s1), lentL 16 (xs1.take 16)])) rfl rfl) (by kernel_rfl) ?_
  refine .cons (OpS.S 10 (.box 36 ([.v (.bool s2), lentL 16 (xs2.take 16)])) rfl rfl) (by kernel_rfl) ?_
  refine .nil ?_
  refine mNil ?_
  refine tN ?_
  refine AW.wk (wk (sl := [(2, .ptr 2 0), (3, .ptr 3 0), (5, .ptr 5 0), (6, .ptr 6 0), (7, .d (.one (lentL 16 (xs1.take 16)))), (8, .d (.one (lentL 16 (xs2.take 16)))), (9, .ptr 9 0), (10, .ptr 10 0)]) (hp := [(2, .box 36 ([.v (.bool s1), lr 16 (xs1.take 16)])), (3, .box 36 ([.v (.bool s2), lr 16 (xs2.take 16)])), (5, .box 42 (rn 48 (zv s1 (val (xs1.take 16))))), (6, .box 42 (rn 48 (zv s2 (val (xs2.take 16))))), (9, .box 36 ([.v (.bool s1), lentL 16 (xs1.take 16)])), (10, .box 36 ([.v (.bool s2), lentL 16 (xs2.take 16)]))]) rfl ⟨hs rfl, hs rfl, hs rfl, hs rfl, hs rfl, hs rfl, hs rfl, hs rfl, trivial⟩ ⟨ho rfl, ho rfl, ho rfl, ho rfl, ho rfl, ho rfl, trivial⟩ rfl) ?_
  refine cOld (fun kk => [(2, .ptr 2 0), (3, .ptr 3 0), (5, .ptr 5 0), (6, .ptr 6 0), (7, .d (.one (old kk (lentL 16 (xs1.take 16))))), (8, .d (.one (old kk (lentL 16 (xs2.take 16))))), (9, .ptr 9 0), (10, .ptr 10 0)]) (fun kk => [(2, .box 36 ([.v (.bool s1), old kk (lr 16 (xs1.take 16))])), (3, .box 36 ([.v (.bool s2), old kk (lr 16 (xs2.take 16))])), (5, .box 42 (rn 48 (zv s1 (val (xs1.take 16))))), (6, .box 42 (rn 48 (zv s2 (val (xs2.take 16))))), (9, .box 36 ([.v (.bool s1), old kk (lentL 16 (xs1.take 16))])), (10, .box 36 ([.v (.bool s2), old kk (lentL 16 (xs2.take 16))]))]) (fun kk => ⟨rfl, old0, rfl, old0, rfl, old0, rfl, old0, rfl, old1, rfl, old1, rfl, old0, rfl, old0, trivial⟩) (fun kk => ⟨rfl, oldb (ol_v (ol ol0)), rfl, oldb (ol_v (ol ol0)), rfl, oldo0, rfl, oldo0, rfl, oldb (ol_v (ol ol0)), rfl, oldb (ol_v (ol ol0)), trivial⟩) (fun kk => ?_)
  refine cSeqK ?_
  refine AW.kk ?_
  refine cReg ?_
  refine mV hTT (.d (.agg ([.v (.bool s1), old kk (lentL 16 (xs1.take 16))]))) rfl ?_
  refine mV hTT (.d (.agg ([.v (.bool s2), old kk (lentL 16 (xs2.take 16))]))) rfl ?_
  refine mC0 (aAddF (k := kk) (isz_olent kk 16 s1 (xs1.take 16)) (isz_olent kk 16 s2 (xs2.take 16)) (szd_cell (pre := [_]) szd_old) (M := 17) (by decide) (by decide) (by decide)) rfl rfl rfl ?_
  refine mN hTT (.box 36 ([.v (.bool false), .v (.slice none 0 0)])) rfl rfl rfl ?_
  refine mS hTT 11 (.box 36 (znw kk 17 ((zv s1 (val (xs1.take 16))) + (zv s2 (val (xs2.take 16)))))) rfl ?_
  refine mNil ?_
  refine tN ?_
  refine cSeqK ?_
  refine AW.kk ?_
  refine cReg ?_
  refine mV hTT (.d (.agg (rn 48 (zv s1 (val (xs1.take 16)))))) rfl ?_
  refine mN hTT (.box 42 ([.v (.slice none 0 0), .v (.bool false)])) rfl rfl rfl ?_
  refine mS hTT 12 (.box 42 (rn 48 (zv s1 (val (xs1.take 16))))) rfl ?_
  refine mNil ?_
  refine tN ?_
  refine cSeqK ?_
  refine AW.kk ?_
  refine cReg ?_
  refine mV hTT (.ptr 12 1) rfl ?_
  refine mS hTT 12 (.box 42 ([dn 48 (Int.natAbs (zv s1 (val (xs1.take 16)))), .v (.bool false)])) rfl ?_
  refine mNil ?_
  refine tN ?_
  refine cSeqK ?_
  refine cSeqK ?_
  refine AW.kk ?_
  refine cDrawK hTT 57 (by kernel_rfl) (by kernel_rfl) (by kernel_rfl) ?_
  refine .cons (OpS.V (.d (.agg (rn 48 (zv s1 (val (xs1.take 16)))))) rfl) ?_
  refine .cons (OpS.V (.d (.agg (rn 48 (zv s2 (val (xs2.take 16)))))) rfl) ?_
  refine .cons (OpS.C0 (aRAdd (isr 48 (zv s1 (val (xs1.take 16)))) (isr 48 (zv s2 (val (xs2.take 16)))) (M := 49) (by decide) (by decide) (by decide)) rfl rfl rfl) ?_
  refine .cons (OpS.V (.d (.agg (znw kk 17 ((zv s1 (val (xs1.take 16))) + (zv s2 (val (xs2.take 16))))))) rfl) ?_
  refine .cons (OpS.C0 (aIs2 (isr 49 ((zv s1 (val (xs1.take 16))) + (zv s2 (val (xs2.take 16))))) (isn_nw kk 17 ((zv s1 (val (xs1.take 16))) + (zv s2 (val (xs2.take 16))))) (by decide) (by decide)) rfl rfl rfl) ?_
  refine .cons (OpS.V (.d (.one (.v (.bool false)))) rfl) ?_
  refine .cons (OpS.V _ rfl) ?_
  refine .cons (OpS.V (.d (.agg (rn 48 (zv s1 (val (xs1.take 16)))))) rfl) ?_
  refine .cons (OpS.V (.d (.agg (rn 48 (zv s2 (val (xs2.take 16)))))) rfl) ?_
  refine .cons (OpS.C0 (aRSub (isr 48 (zv s1 (val (xs1.take 16)))) (isr 48 (zv s2 (val (xs2.take 16)))) (M := 49) (by decide) (by decide) (by decide)) rfl rfl rfl) ?_
  refine .cons (OpS.V (.d (.agg ([.v (.bool s1), old kk (lentL 16 (xs1.take 16))]))) rfl) ?_
  refine .cons (OpS.V (.d (.agg ([.v (.bool s2), old kk (lentL 16 (xs2.take 16))]))) rfl) ?_
  refine .cons (OpS.C0 (aSub (isz_olent kk 16 s1 (xs1.take 16)) (isz_olent kk 16 s2 (xs2.take 16)) (M := 17) (by decide) (by decide) (by decide)) rfl rfl rfl) ?_
  refine .cons (OpS.C0 (aIs2 (isr 49 ((zv s1 (val (xs1.take 16))) - (zv s2 (val (xs2.take 16))))) (isn 17 ((zv s1 (val (xs1.take 16))) - (zv s2 (val (xs2.take 16))))) (by decide) (by decide)) rfl rfl rfl) ?_
  refine .cons (OpS.V (.d (.one (.v (.bool false)))) rfl) ?_
  refine .cons (OpS.V _ rfl) ?_
  refine .cons (OpS.V _ rfl) ?_
  refine .cons (OpS.V (.d (.agg (rn 48 (zv s1 (val (xs1.take 16)))))) rfl) ?_
  refine .cons (OpS.V (.d (.agg (rn 48 (zv s2 (val (xs2.take 16)))))) rfl) ?_
  refine .cons (OpS.C0 (aRMul (isr 48 (zv s1 (val (xs1.take 16)))) (isr 48 (zv s2 (val (xs2.take 16)))) (M := 96) (by decide) (by decide) (by decide)) rfl rfl rfl) ?_
  refine .cons (OpS.V (.d (.agg ([.v (.bool s1), old kk (lentL 16 (xs1.take 16))]))) rfl) ?_
  refine .cons (OpS.V (.d (.agg ([.v (.bool s2), old kk (lentL 16 (xs2.take 16))]))) rfl) ?_
  refine .cons (OpS.C0 (aMul (isz_olent kk 16 s1 (xs1.take 16)) (isz_olent kk 16 s2 (xs2.take 16)) (M := 32) (by decide) (by decide) (by decide)) rfl rfl rfl) ?_
  refine .cons (OpS.C0 (aIs2 (isr 96 ((zv s1 (val (xs1.take 16))) * (zv s2 (val (xs2.take 16))))) (isn 32 ((zv s1 (val (xs1.take 16))) * (zv s2 (val (xs2.take 16))))) (by decide) (by decide)) rfl rfl rfl) ?_
  refine .cons (OpS.V (.d (.one (.v (.bool false)))) rfl) ?_
  refine .cons (OpS.V _ rfl) ?_
  refine .cons (OpS.V _ rfl) ?_
  refine .cons (OpS.V (.d (.agg (rn 48 (zv s1 (val (xs1.take 16)))))) rfl) ?_
  refine .cons (OpS.C0 (aRNeg (isr 48 (zv s1 (val (xs1.take 16)))) (M := 48) (by decide) (by decide)) rfl rfl rfl) ?_
  refine .cons (OpS.V (.d (.agg ([.v (.bool s1), old kk (lentL 16 (xs1.take 16))]))) rfl) ?_
  refine .cons (OpS.C0 (aNeg (isz_olent kk 16 s1 (xs1.take 16)) (by decide)) rfl rfl rfl) ?_
  refine .cons (OpS.C0 (aIs2 (isr 48 (-(zv s1 (val (xs1.take 16))))) (isn 16 (-(zv s1 (val (xs1.take 16))))) (by decide) (by decide)) rfl rfl rfl) ?_
  refine .cons (OpS.V (.d (.one (.v (.bool false)))) rfl) ?_
  refine .cons (OpS.V _ rfl) ?_
  refine .cons (OpS.V _ rfl) ?_
  refine .cons (OpS.V (.d (.agg ([dn 48 (Int.natAbs (zv s1 (val (xs1.take 16)))), .v (.bool false)]))) rfl) ?_
  refine .cons (OpS.V (.d (.agg ([.v (.bool s1), old kk (lentL 16 (xs1.take 16))]))) rfl) ?_
  refine .cons (OpS.C0 (aAbs (isz_olent kk 16 s1 (xs1.take 16)) (by decide)) rfl rfl rfl) ?_
  refine .cons (OpS.C0 (aIs2 (IsR.eq (isr_abs 48 (Int.natAbs (zv s1 (val (xs1.take 16))))) rfl) (isn 16 (Int.natAbs (zv s1 (val (xs1.take 16))) : Int)) (by decide) (by decide)) rfl rfl rfl) ?_
  refine .cons (OpS.V (.d (.one (.v (.bool false)))) rfl) ?_
  refine .cons (OpS.V _ rfl) ?_
  refine .cons (OpS.V _ rfl) ?_
  refine .cons (OpS.V (.d (.agg (rn 48 (zv s1 (val (xs1.take 16)))))) rfl) ?_
  refine .cons (OpS.V (.d (.agg ([.v (.bool s1), old kk (lentL 16 (xs1.take 16))]))) rfl) ?_
  refine .cons (OpS.C0 (aNorm (isz_olent kk 16 s1 (xs1.take 16)) (by decide)) rfl rfl rfl) ?_
  refine .cons (OpS.C0 (aIs2 (isr 48 (zv s1 (val (xs1.take 16)))) (isn 16 (zv s1 (val (xs1.take 16)))) (by decide) (by decide)) rfl rfl rfl) ?_
  refine .cons (OpS.V (.d (.one (.v (.bool false)))) rfl) ?_
  refine .cons (OpS.V _ rfl) ?_
  refine .cons (OpS.V _ rfl) ?_
  refine .cons (OpS.V (.d (.agg ([.v (.bool s1), old kk (lentL 16 (xs1.take 16))]))) rfl) ?_
  refine .cons (OpS.V (.d (.agg ([.v (.bool s2), old kk (lentL 16 (xs2.take 16))]))) rfl) ?_
  refine .cons (OpS.C0 (aCmp (isz_olent kk 16 s1 (xs1.take 16)) (isz_olent kk 16 s2 (xs2.take 16)) (by decide) (by decide)) rfl rfl rfl) ?_
  refine .cons (OpS.V (.d (.agg (rn 48 (zv s1 (val (xs1.take 16)))))) rfl) ?_
  refine .cons (OpS.V (.d (.agg (rn 48 (zv s2 (val (xs2.take 16)))))) rfl) ?_
  refine .cons (OpS.C0 (aRCmp (isr 48 (zv s1 (val (xs1.take 16)))) (isr 48 (zv s2 (val (xs2.take 16)))) (by decide) (by decide)) rfl rfl rfl) ?_
  refine .cons (OpS.V (.d (.one (.v (.bool false)))) (evb (by simp))) ?_
  refine .cons (OpS.V _ rfl) ?_
  refine .nil ?_
  refine mNil ?_
  refine tN ?_
  refine cFK rfl ?_
  refine cSkipK ?_
  refine tN ?_
  refine cSeqK ?_
  refine cRegK ?_
  refine mVK hTT (.ptr 11 1) rfl ?_
  refine mVK hTT (.d (.one (nl kk 17 (Int.natAbs ((zv s1 (val (xs1.take 16))) + (zv s2 (val (xs2.take 16)))))))) rfl ?_
  refine ALk.wk (wk (sl := [(2, .ptr 2 0), (3, .ptr 3 0), (7, .d (.one (old kk (lentL 16 (xs1.take 16))))), (8, .d (.one (old kk (lentL 16 (xs2.take 16))))), (9, .ptr 9 0), (10, .ptr 10 0), (101, .d (.one (spl kk)))]) (hp := [(2, .box 36 ([.v (.bool s1), old kk (lr 16 (xs1.take 16))])), (3, .box 36 ([.v (.bool s2), old kk (lr 16 (xs2.take 16))])), (9, .box 36 ([.v (.bool s1), old kk (lentL 16 (xs1.take 16))])), (10, .box 36 ([.v (.bool s2), old kk (lentL 16 (xs2.take 16))]))]) rfl ⟨hs rfl, hs rfl, hs rfl, hs rfl, hs rfl, hs rfl, hs' rfl (le_one nl_spl), trivial⟩ ⟨ho rfl, ho rfl, ho rfl, ho rfl, trivial⟩ rfl) ?_
  refine mSplK (j := kk) (enters Try.func20 rfl rfl) (spoil_spl kk) rfl rfl rfl rfl (Nat.le_refl _) ⟨sta_ptr, sta_ptr, sta_one (st_old (Nat.le_refl _)), sta_one (st_old (Nat.le_refl _)), sta_ptr, sta_ptr, sta_one st_spl, trivial⟩ ⟨sto_box ⟨st_v, st_old (Nat.le_refl _), trivial⟩, sto_box ⟨st_v, st_old (Nat.le_refl _), trivial⟩, sto_box ⟨st_v, st_old (Nat.le_refl _), trivial⟩, sto_box ⟨st_v, st_old (Nat.le_refl _), trivial⟩, trivial⟩ ?_
  refine mNilK ?_
  refine tN ?_
  refine cSeqK ?_
  refine AW.kk ?_
  refine cReg ?_
  refine mV hTT (.d (.agg ([.v (.bool s1), old kk (lentL 16 (xs1.take 16))]))) rfl ?_
  refine mC0 (aNormF (k := kk) (isz_olent kk 16 s1 (xs1.take 16)) (szd_cell (pre := [_]) szd_old) (by decide)) rfl rfl rfl ?_
  refine mN hTT (.box 36 ([.v (.bool false), .v (.slice none 0 0)])) rfl rfl rfl ?_
  refine mS hTT 13 (.box 36 (znw kk 16 (zv s1 (val (xs1.take 16))))) rfl ?_
  refine mNil ?_
  refine tN ?_
  refine cSeqK ?_
  refine cRegK ?_
  refine mVK hTT (.ptr 13 1) rfl ?_
  refine mVK hTT (.d (.one (nl kk 16 (Int.natAbs (zv s1 (val (xs1.take 16))))))) rfl ?_
  refine ALk.wk (wk (sl := [(2, .ptr 2 0), (3, .ptr 3 0), (7, .d (.one (old kk (lentL 16 (xs1.take 16))))), (8, .d (.one (old kk (lentL 16 (xs2.take 16))))), (9, .ptr 9 0), (10, .ptr 10 0), (106, .d (.one (spl kk)))]) (hp := [(2, .box 36 ([.v (.bool s1), old kk (lr 16 (xs1.take 16))])), (3, .box 36 ([.v (.bool s2), old kk (lr 16 (xs2.take 16))])), (9, .box 36 ([.v (.bool s1), old kk (lentL 16 (xs1.take 16))])), (10, .box 36 ([.v (.bool s2), old kk (lentL 16 (xs2.take 16))]))]) rfl ⟨hs rfl, hs rfl, hs rfl, hs rfl, hs rfl, hs rfl, hs' rfl (le_one nl_spl), trivial⟩ ⟨ho rfl, ho rfl, ho rfl, ho rfl, trivial⟩ rfl) ?_
  refine mSplK (j := kk) (enters Try.func20 rfl rfl) (spoil_spl kk) rfl rfl rfl rfl (Nat.le_refl _) ⟨sta_ptr, sta_ptr, sta_one (st_old (Nat.le_refl _)), sta_one (st_old (Nat.le_refl _)), sta_ptr, sta_ptr, sta_one st_spl, trivial⟩ ⟨sto_box ⟨st_v, st_old (Nat.le_refl _), trivial⟩, sto_box ⟨st_v, st_old (Nat.le_refl _), trivial⟩, sto_box ⟨st_v, st_old (Nat.le_refl _), trivial⟩, sto_box ⟨st_v, st_old (Nat.le_refl _), trivial⟩, trivial⟩ ?_
  refine mNilK ?_
  refine tN ?_
  refine cSeqK ?_
  refine AW.kk ?_
  refine cReg ?_
  refine mV hTT _ rfl ?_
  refine mV hTT (.ptr 2 1) rfl ?_
  refine mV hTT (.d (.one (old kk (lr 16 (xs1.take 16))))) rfl ?_
  refine mC0 (aIntact (K := 16) (L := 16) (xs := (xs1.take 16)) old_le old_le (by decide)) rfl rfl rfl ?_
  refine mV hTT _ rfl ?_
  refine mV hTT _ rfl ?_
  refine mV hTT (.ptr 3 1) rfl ?_
  refine mV hTT (.d (.one (old kk (lr 16 (xs2.take 16))))) rfl ?_
  refine mC0 (aIntact (K := 16) (L := 16) (xs := (xs2.take 16)) old_le old_le (by decide)) rfl rfl rfl ?_
  refine mV hTT _ rfl ?_
  refine mV hTT _ rfl ?_
  refine mC0 (aWakes) rfl rfl rfl ?_
  refine mV hTT _ rfl ?_
  refine mV hTT _ rfl ?_
  refine mNil ?_
  refine tN ?_
  refine cRetK ?_
  exact rQ rfl (AV.le.rfl)

end Go.Proofs.Ytlkdlicbhhackaa

/-
  A SLICE OF INTEGERS THAT CAME IN, AS THE WALKS READ IT ('Rw').
-/
set_option linter.unusedVariables false
set_option linter.unusedSimpArgs false
namespace Go.Proofs.Ytlkdlicbhhackaa
open Go.RowKit

/-- A row that came in (in the words of the rows' shells) is a row as the walks read it: kind k, each from 0 to B - 1. -/
theorem rw_in {k : IntKind} {B : Nat} {w : World} {a : Option Addr} {len cap : Nat} {zs : List Int}
    (h : (a = none ∧ len = 0 ∧ cap = 0 ∧ zs = []) ∨ ∃ x, a = some x ∧ len ≤ cap ∧ cap ≤ maxLen ∧ zs.length = cap ∧ (∀ i, i < zs.length → w.cell? (x.add i) = some (.int k (zs.getD i 0))) ∧ ∀ n ∈ zs, (Lit.int k n).wf = true)
    (hk : ∀ z : Int, (Lit.int k z).wf = true → 0 ≤ z ∧ z < (B : Int)) :
    len ≤ 9223372036854775807 ∧ ∃ xs, Rw k B w a len cap xs := by
  rcases h with ⟨rfl, rfl, rfl, rfl⟩ | ⟨x, rfl, hlc, hcm, hz, hcell, hwf⟩
  · exact ⟨by omega, [], Rw.nil k B w⟩
  · have hm : maxLen = 9223372036854775807 := by decide
    refine ⟨by omega, (zs.take len).map Int.toNat, by rw [List.length_map, List.length_take]; omega, hlc, (fun e => nomatch e), ?_, ?_⟩
    · intro n hn
      obtain ⟨z, hz, rfl⟩ := List.mem_map.1 hn
      have := hk z (hwf z (List.mem_of_mem_take hz))
      omega
    · by_cases h0 : len = 0
      · left; subst h0; rfl
      · right
        obtain ⟨b, off, sp⟩ := x
        have hc0 := hcell 0 (by omega)
        obtain rfl : sp = none := by
          cases sp with
          | none => rfl
          | some s =>
            exfalso
            simp only [Addr.add, if_true, World.cell?] at hc0
            split at hc0 <;> simp_all
        refine ⟨b, off, rfl, fun j hj => ?_⟩
        have hj2 : j < len := by simp [ints] at hj; omega
        have hcj := hcell j (by omega)
        have hzj : zs.getD j 0 = zs[j]'(by omega) := by rw [List.getD_eq_getElem?_getD, List.getElem?_eq_getElem (by omega)]; rfl
        have e1 : (⟨b, off, none⟩ : Addr).add j = ⟨b, off + j, none⟩ := by
          unfold Addr.add
          split
          · next h => subst h; rfl
          · rfl
        rw [e1, hzj] at hcj
        rw [hcj]
        have hw := hk _ (hwf _ (List.getElem_mem (l := zs) (n := j) (by omega)))
        simp only [ints, List.map_map, List.getElem_map, List.getElem_take, Function.comp]
        rw [Int.toNat_of_nonneg hw.1]

theorem wf_u32 (z : Int) (h : (Lit.int .u32 z).wf = true) : 0 ≤ z ∧ z < (B32 : Int) := by
  simp only [Lit.wf, Bool.and_eq_true, decide_eq_true_eq] at h
  have h1 : IntKind.u32.min = 0 := by decide
  have h2 : IntKind.u32.max = 4294967295 := by decide
  have h3 : (B32 : Int) = 4294967296 := by decide
  omega

theorem wf_int {z : Int} (h : (Lit.int .i64 z).wf = true) : -9223372036854775808 ≤ z ∧ z ≤ 9223372036854775807 := by
  simp only [Lit.wf, Bool.and_eq_true, decide_eq_true_eq] at h
  have h1 : IntKind.i64.min = -9223372036854775808 := by decide
  have h2 : IntKind.i64.max = 9223372036854775807 := by decide
  omega

end Go.Proofs.Ytlkdlicbhhackaa

/-
  WHAT COMES IN: rows of limbs, rows of rows, as the walks read them.
-/
set_option linter.unusedVariables false
set_option linter.unusedSimpArgs false
namespace Go.Proofs.Ytlkdlicbhhackaa
open Go.RowKit Go.ChangeShapes Go.WideShapes

section
variable {H : Type} {enc : TypeId × Value → H} {P : Program} {w : World}

/-- A row of limbs that came in. -/
theorem in_u32s {t e : TypeId} {fuel : Nat} {cs : List Value} {x : DataW H × List MemPlace} (ht : P.underlying t = some (.slice e)) (he : P.underlying e = some (.int .u32)) (hc : P.cellsOf e = 1)
    (h : DataW.trod enc P w 0 (fun _ => true) true fuel t cs = some x) :
    ∃ a len cap, cs = [.slice a len cap] ∧ len ≤ 9223372036854775807 ∧ ∃ xs, Rw .u32 B32 w a len cap xs := by
  rcases open_ints ht he hc h with ⟨rfl, _⟩ | ⟨a, l, c, zs, rfl, _, hl, hm, hz, _, hcell, hwz⟩
  · exact ⟨none, 0, 0, rfl, by omega, [], Rw.nil _ _ _⟩
  · exact ⟨some a, l, c, rfl, rw_in (.inr ⟨_, rfl, hl, hm, by simpa using hz, hcell, hwz⟩) wf_u32⟩

/-- A row of rows of limbs that came in: each element is a row of limbs. -/
def InRows (w : World) (ao : Option Addr) (n : Nat) : Prop :=
  ∀ j, j < n → ∃ b off a k d xs, ao = some ⟨b, off, none⟩ ∧ w.cell? ⟨b, off + j, none⟩ = some (.slice a k d) ∧ k ≤ 9223372036854775807 ∧ Rw .u32 B32 w a k d xs

theorem add_plain {b off j : Nat} : (⟨b, off, none⟩ : Addr).add j = ⟨b, off + j, none⟩ := by
  unfold Addr.add
  split
  · next h => subst h; rfl
  · rfl

/-- The address of a cell that can be read has no spot. -/
theorem plain_of_cell {a : Addr} {v : Value} (h : w.cell? (a.add 0) = some v) : ∃ b off, a = ⟨b, off, none⟩ := by
  obtain ⟨b, off, sp⟩ := a
  cases sp with
  | none => exact ⟨b, off, rfl⟩
  | some s =>
    exfalso
    simp only [Addr.add, if_true, World.cell?] at h
    split at h <;> simp_all

theorem in_rows {t e e' : TypeId} {fuel : Nat} {cs : List Value} {x : DataW H × List MemPlace} (ht : P.underlying t = some (.slice e)) (he : P.underlying e = some (.slice e')) (he' : P.underlying e' = some (.int .u32)) (hc : P.cellsOf e = 1) (hc' : P.cellsOf e' = 1)
    (h : DataW.trod enc P w 0 (fun _ => true) true fuel t cs = some x) :
    ∃ a len cap, cs = [.slice a len cap] ∧ len ≤ 9223372036854775807 ∧ len ≤ cap ∧ InRows w a len := by
  rcases Go.Deep.open_slice1 ht hc h with ⟨rfl, _⟩ | ⟨a, len, cap, m, n, V, D, Pl, rfl, _, hl, hm, hmm, _, hx⟩
  · exact ⟨none, 0, 0, rfl, by omega, Nat.le_refl _, fun j hj => absurd hj (by omega)⟩
  · have hmax : maxLen = 9223372036854775807 := by decide
    refine ⟨some a, len, cap, rfl, by omega, hl, fun j hj => ?_⟩
    have hm2 : m = cap := by simpa using hmm
    obtain ⟨b, off, rfl⟩ := plain_of_cell (hx 0 (by omega)).1
    obtain ⟨h1, h2⟩ := hx j (by omega)
    obtain ⟨a', k, d, he1, hk, xs, hr⟩ := in_u32s he he' hc' h2
    rw [add_plain] at h1
    exact ⟨b, off, a', k, d, xs, rfl, by rw [h1]; exact congrArg some (List.cons.inj he1).1, hk, hr⟩

end
end Go.Proofs.Ytlkdlicbhhackaa

/-
  WHAT COMES IN, in the abstract machine's words; a law's answer as the rows ask for it. No condition; nothing of the program.
-/
set_option linter.unusedVariables false
set_option linter.unusedSimpArgs false
namespace Go.Proofs.Ytlkdlicbhhackaa
open Go.RowKit Go.ChangeShapes Go.WideShapes

def nb : BS := fun _ => False
abbrev MX : Nat := 9223372036854775807
theorem am_law {P : Program} {f : FuncId} {args : List DV} (h : ACall P f args (.d (.one (.v (.bool true))))) {w : World} {vs : List Value} (hvs : DsR nb w args vs) : Calls P f vs.toArray w fun e w' => e = .returned (.bool true) ∧ Below w.heap.size w w' :=
  (h.go nb w vs (fun _ h => h.elim) hvs).mono fun e w' ⟨v, he, hb, hv⟩ => ⟨by have h1 : v = .bool true := (show LfR nb w' (.v (.bool true)) v from hv).1; rw [he, h1], hb⟩

section
variable {H : Type} {enc : TypeId × Value → H} {P : Program} {w : World}
theorem am_lim {t e : TypeId} {fuel : Nat} {cs : List Value} {x : DataW H × List MemPlace} (ht : P.underlying t = some (.slice e)) (he : P.underlying e = some (.int .u32)) (hc : P.cellsOf e = 1)
    (h : DataW.trod enc P w 0 (fun _ => true) true fuel t cs = some x) : ∃ v xs, cs = [v] ∧ LfR nb w (lr MX xs) v := by
  obtain ⟨a, len, cap, e1, hl, xs, hr⟩ := in_u32s ht he hc h
  exact ⟨_, xs, e1, lr_R hr hl (fun _ _ _ h => h.elim)⟩
theorem am_int {r : Reach} {b0 : Nat} {t e : TypeId} {f0 f1 : Field} {v : Value} {d : DataW H} {p : List MemPlace} (hs : P.underlying t = some (.struct #[f0, f1])) (hone : Deep.oneCellFields P #[f0, f1] = true) (hC : P.cellsOf t = 2)
    (h0 : P.underlying f0.type = some .bool) (h1 : P.underlying f1.type = some (.slice e)) (he : P.underlying e = some (.int .u32)) (hc : P.cellsOf e = 1)
    (hv : Value.okWide P w r b0 t v) (h : DataW.Trod enc P w 0 (fun _ => true) true t v d p) :
    ∃ s xs, DR nb w (.agg [.v (.bool s), lr MX xs]) v := by
  obtain ⟨v0, v1, y0, y1, m, rfl, _, _, k0, k1⟩ := Joins.open_agg2 hs hone hC hv h
  obtain ⟨v1', xs, e1, hr⟩ := am_lim h1 he hc k1
  obtain ⟨s, e0⟩ : ∃ s, v0 = .bool s := by
    obtain ⟨b', hb, _⟩ := DataW.trod_bool h0 k0
    exact ⟨b', (List.cons.inj hb).1⟩
  subst e0
  obtain rfl := (List.cons.inj e1).1
  exact ⟨s, xs, _, rfl, ⟨rfl, rfl⟩, hr, trivial⟩
theorem am_pol {t e u : TypeId} {f0 f1 : Field} {fuel : Nat} {cs : List Value} {x : DataW H × List MemPlace} (ht : P.underlying t = some (.slice e)) (hs : P.underlying e = some (.struct #[f0, f1])) (hC : P.cellsOf e = 2)
    (ho : f0.offset = 0 ∧ f1.offset = 1 ∧ P.cellsOf f0.type = 1 ∧ P.cellsOf f1.type = 1)
    (h0 : P.underlying f0.type = some .bool) (h1 : P.underlying f1.type = some (.slice u)) (hu : P.underlying u = some (.int .u32)) (hc : P.cellsOf u = 1)
    (h : DataW.trod enc P w 0 (fun _ => true) true fuel t cs = some x) : ∃ v n f, cs = [v] ∧ LfR nb w (arow MX n f) v := by
  obtain ⟨o0, o1, k0, k1⟩ := ho
  rcases Go.Deep.open_slice ht h with ⟨hcs, _⟩ | ⟨a, len, cap, m, n, D, Pl, hcs, _, hl, hm, hmm, _, hx⟩
  · exact ⟨_, 0, fun _ => (false, []), hcs, none, 0, rfl, Nat.le_refl _, fun _ => rfl, fun i hi => absurd hi (Nat.not_lt_zero _)⟩
  · have hmax : maxLen = 9223372036854775807 := by decide
    have hm2 : m = cap := by simpa using hmm
    have key : ∀ j, j < len → ∃ F : Bool × List Nat, ∃ b off v1, a = ⟨b, off, none⟩ ∧ w.cell? ⟨b, off + j * 2, none⟩ = some (.bool F.1) ∧ w.cell? ⟨b, off + j * 2 + 1, none⟩ = some v1 ∧ LfR nb w (lr MX F.2) v1 := by
      intro j hj
      have hfirst : ∃ v0, w.cell? (a.add 0) = some v0 := by
        obtain ⟨cs, h2, _⟩ := hx 0 (by omega)
        rw [hC] at h2
        obtain ⟨_, hlen, hcell⟩ := World.cells?_some h2
        have h3 := hcell 0 (by omega)
        rw [Nat.zero_mul, show (a.add 0).add 0 = a.add 0 by simp [Addr.add]] at h3
        exact ⟨_, h3.trans (List.getElem?_eq_getElem (by omega))⟩
      obtain ⟨v0, hv0⟩ := hfirst
      obtain ⟨b, off, rfl⟩ := plain_of_cell hv0
      obtain ⟨cs, h2, h3⟩ := hx j (by omega)
      rw [hC] at h2
      obtain ⟨_, hlen, hcell⟩ := World.cells?_some h2
      obtain ⟨y0, y1, q, _, _, t0, t1⟩ := trod_struct2 hs h3
      match cs, hlen with
      | [c0, c1], _ =>
        rw [o0, k0] at t0
        rw [o1, k1] at t1
        obtain ⟨s, hb, _⟩ := DataW.trod_bool h0 t0
        obtain ⟨v1, xs, e1, hr⟩ := am_lim h1 hu hc t1
        obtain rfl : c0 = .bool s := (List.cons.inj hb).1
        obtain rfl : c1 = v1 := (List.cons.inj e1).1
        have g0 := hcell 0 (by simp)
        have g1 := hcell 1 (by simp)
        rw [add_plain, add_plain] at g0 g1
        exact ⟨(s, xs), b, off, c1, rfl, g0, g1, hr⟩
    refine ⟨_, len, fun j => if h : j < len then (key j h).choose else (false, []), hcs, some a, cap, rfl, hl, (fun e => nomatch e), fun j hj => ?_⟩
    obtain ⟨b, off, v1, rfl, h2, h3, h4⟩ := (key j hj).choose_spec
    refine ⟨b, off, rfl, fun h => h.elim, World.block_lt_of_cell? w _ h2, fun q hq => ?_⟩
    match q, hq with
    | 0, _ =>
      refine ⟨_, h2, ?_⟩
      show LfR nb w (.v (.bool (if h : j < len then (key j h).choose else (false, [])).1)) _
      rw [dif_pos hj]; exact ⟨rfl, rfl⟩
    | 1, _ =>
      refine ⟨_, h3, ?_⟩
      show LfR nb w (lr MX (if h : j < len then (key j h).choose else (false, [])).2) _
      rw [dif_pos hj]; exact h4
theorem am_pols {t s e u : TypeId} {f0 f1 : Field} {fuel : Nat} {cs : List Value} {x : DataW H × List MemPlace} (hts : P.underlying t = some (.slice s)) (hcs1 : P.cellsOf s = 1) (ht : P.underlying s = some (.slice e)) (hs : P.underlying e = some (.struct #[f0, f1])) (hC : P.cellsOf e = 2)
    (ho : f0.offset = 0 ∧ f1.offset = 1 ∧ P.cellsOf f0.type = 1 ∧ P.cellsOf f1.type = 1)
    (h0 : P.underlying f0.type = some .bool) (h1 : P.underlying f1.type = some (.slice u)) (hu : P.underlying u = some (.int .u32)) (hc : P.cellsOf u = 1)
    (h : DataW.trod enc P w 0 (fun _ => true) true fuel t cs = some x) : ∃ v n ns fs, cs = [v] ∧ LfR nb w (prows MX n ns fs) v := by
  rcases Go.Deep.open_slice1 hts hcs1 h with ⟨rfl, _⟩ | ⟨a, len, cap, m, n, V, D, Pl, rfl, _, hl, hm, hmm, _, hx⟩
  · exact ⟨_, 0, fun _ => 0, fun _ _ => (false, []), rfl, none, 0, rfl, Nat.le_refl _, fun _ => rfl, fun i hi => absurd hi (Nat.not_lt_zero _)⟩
  · have hm2 : m = cap := by simpa using hmm
    have key : ∀ j, j < len → ∃ F : Nat × (Nat → Bool × List Nat), ∃ b off v1, a = ⟨b, off, none⟩ ∧ w.cell? ⟨b, off + j, none⟩ = some v1 ∧ LfR nb w (arow MX F.1 F.2) v1 := by
      intro j hj
      obtain ⟨b, off, rfl⟩ := plain_of_cell (hx 0 (by omega)).1
      obtain ⟨h1', h2⟩ := hx j (by omega)
      obtain ⟨v, n', f, e1, hr⟩ := am_pol ht hs hC ho h0 h1 hu hc h2
      rw [add_plain] at h1'
      obtain e2 := (List.cons.inj e1).1
      exact ⟨(n', f), b, off, v, rfl, by rw [h1', e2], hr⟩
    refine ⟨_, len, fun j => if h : j < len then (key j h).choose.1 else 0, fun j => if h : j < len then (key j h).choose.2 else fun _ => (false, []), rfl, some a, cap, rfl, hl, (fun e => nomatch e), fun j hj => ?_⟩
    obtain ⟨b, off, v1, rfl, h2, h4⟩ := (key j hj).choose_spec
    refine ⟨b, off, rfl, fun h => h.elim, World.block_lt_of_cell? w _ h2, fun q hq => ?_⟩
    obtain rfl : q = 0 := by omega
    refine ⟨_, by rw [Nat.mul_one, Nat.add_zero]; exact h2, ?_⟩
    show LfR nb w (arow MX (if h : j < len then (key j h).choose.1 else 0) (if h : j < len then (key j h).choose.2 else fun _ => (false, []))) _
    rw [dif_pos hj, dif_pos hj]; exact h4
theorem am_i64s {t e : TypeId} {fuel : Nat} {cs : List Value} {x : DataW H × List MemPlace} (ht : P.underlying t = some (.slice e)) (he : P.underlying e = some (.int .i64)) (hc : P.cellsOf e = 1)
    (h : DataW.trod enc P w 0 (fun _ => true) true fuel t cs = some x) : ∃ v n c, cs = [v] ∧ LfR nb w (irow n c) v ∧ ∀ i, i < n → -9223372036854775808 ≤ c i ∧ c i ≤ 9223372036854775807 := by
  rcases open_ints ht he hc h with ⟨rfl, _⟩ | ⟨a, l, c, zs, rfl, _, hl, hm, hz, _, hcell, hwz⟩
  · exact ⟨_, 0, fun _ => 0, rfl, ⟨none, 0, rfl, Nat.le_refl _, fun _ => rfl, fun i hi => absurd hi (Nat.not_lt_zero _)⟩, fun i hi => absurd hi (Nat.not_lt_zero _)⟩
  · have hz' : zs.length = c := by simpa using hz
    refine ⟨_, l, fun i => zs.getD i 0, rfl, ⟨some a, c, rfl, hl, (fun e => nomatch e), fun i hi => ?_⟩, fun i hi => ?_⟩
    · have h0 := hcell 0 (by omega)
      obtain ⟨b, off, rfl⟩ := plain_of_cell h0
      have h1 := hcell i (by omega)
      rw [add_plain] at h1
      refine ⟨b, off, rfl, fun h => h.elim, World.block_lt_of_cell? w _ h1, fun q hq => ?_⟩
      obtain rfl : q = 0 := by omega
      exact ⟨_, by rw [Nat.mul_one, Nat.add_zero]; exact h1, rfl, rfl⟩
    · have hi' : i < zs.length := by omega
      show _ ≤ zs.getD i 0 ∧ zs.getD i 0 ≤ _
      rw [List.getD_eq_getElem?_getD, List.getElem?_eq_getElem hi']
      exact wf_int (hwz _ (List.getElem_mem hi'))
theorem slice_cells {a : Option Addr} {n c : Nat} : (Value.slice a n c).cells.toList = [.slice a n c] := by simp [Value.cells]
theorem am_polT {r : Reach} {b0 : Nat} {d : DataW H} {p : List MemPlace} {v : Value} {t e u : TypeId} {f0 f1 : Field} (ht : P.underlying t = some (.slice e)) (hs : P.underlying e = some (.struct #[f0, f1])) (hC : P.cellsOf e = 2)
    (ho : f0.offset = 0 ∧ f1.offset = 1 ∧ P.cellsOf f0.type = 1 ∧ P.cellsOf f1.type = 1)
    (h0 : P.underlying f0.type = some .bool) (h1 : P.underlying f1.type = some (.slice u)) (hu : P.underlying u = some (.int .u32)) (hc : P.cellsOf u = 1)
    (hv : Value.okWide P w r b0 t v) (h : DataW.Trod enc P w 0 (fun _ => true) true t v d p) : ∃ n f, LfR nb w (arow MX n f) v := by
  obtain ⟨a, len, cap, rfl⟩ := okWide_slice ht hv
  obtain ⟨fuel, hf⟩ := h
  rw [slice_cells] at hf
  obtain ⟨v', n, f, e1, h2⟩ := am_pol ht hs hC ho h0 h1 hu hc hf
  obtain rfl := (List.cons.inj e1).1
  exact ⟨n, f, h2⟩
theorem am_polsT {r : Reach} {b0 : Nat} {d : DataW H} {p : List MemPlace} {v : Value} {t s e u : TypeId} {f0 f1 : Field} (hts : P.underlying t = some (.slice s)) (hcs1 : P.cellsOf s = 1) (ht : P.underlying s = some (.slice e)) (hs : P.underlying e = some (.struct #[f0, f1])) (hC : P.cellsOf e = 2)
    (ho : f0.offset = 0 ∧ f1.offset = 1 ∧ P.cellsOf f0.type = 1 ∧ P.cellsOf f1.type = 1)
    (h0 : P.underlying f0.type = some .bool) (h1 : P.underlying f1.type = some (.slice u)) (hu : P.underlying u = some (.int .u32)) (hc : P.cellsOf u = 1)
    (hv : Value.okWide P w r b0 t v) (h : DataW.Trod enc P w 0 (fun _ => true) true t v d p) : ∃ n ns fs, LfR nb w (prows MX n ns fs) v := by
  obtain ⟨a, len, cap, rfl⟩ := okWide_slice hts hv
  obtain ⟨fuel, hf⟩ := h
  rw [slice_cells] at hf
  obtain ⟨v', n, ns, fs, e1, h2⟩ := am_pols hts hcs1 ht hs hC ho h0 h1 hu hc hf
  obtain rfl := (List.cons.inj e1).1
  exact ⟨n, ns, fs, h2⟩
theorem am_i64sT {r : Reach} {b0 : Nat} {d : DataW H} {p : List MemPlace} {v : Value} {t e : TypeId} (ht : P.underlying t = some (.slice e)) (he : P.underlying e = some (.int .i64)) (hc : P.cellsOf e = 1)
    (hv : Value.okWide P w r b0 t v) (h : DataW.Trod enc P w 0 (fun _ => true) true t v d p) : ∃ n c, LfR nb w (irow n c) v ∧ ∀ i, i < n → -9223372036854775808 ≤ c i ∧ c i ≤ 9223372036854775807 := by
  obtain ⟨a, len, cap, rfl⟩ := okWide_slice ht hv
  obtain ⟨fuel, hf⟩ := h
  rw [slice_cells] at hf
  obtain ⟨v', n, c, e1, h2⟩ := am_i64s ht he hc hf
  obtain rfl := (List.cons.inj e1).1
  exact ⟨n, c, h2⟩
end
end Go.Proofs.Ytlkdlicbhhackaa

