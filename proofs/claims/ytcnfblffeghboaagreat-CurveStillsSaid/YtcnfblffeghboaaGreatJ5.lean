/-
  PLAIN LAW of chapter 12: a curve's normal form is told by the least common denominator of its coefficients; rows one behind the other. No condition; nothing of the program.
-/
import Derived.Test.YtcnfblffeghboaaGreatJ3
import Derived.Test.YtcnfblffeghboaaGreatJ4
import Derived.Test.YtcnfblffeghboaaGreatJ1
import Derived.Test.YtcnfblffeghboaaGreatJ0
import Derived.OpenShut
import Derived.Deep.Slices
import Derived.ChangeOld
import Derived.ChangeSame
import Derived.Lib.SmallJoins
set_option linter.unusedVariables false
set_option linter.unusedSimpArgs false
namespace Go.Proofs.YtcnfblffeghboaaGreat
open Go.RowKit

/-- Two rows one behind the other. -/
def catF {α : Type} (n : Nat) (c d : Nat → α) : Nat → α := fun i => bif Nat.ble (i + 1) n then c i else d (i - n)
theorem catF_l {α : Type} {n i : Nat} {c d : Nat → α} (h : i < n) : catF n c d i = c i := by unfold catF; rw [show Nat.ble (i + 1) n = true from Nat.ble_eq_true_of_le h]; rfl
theorem catF_r {α : Type} {n i : Nat} {c d : Nat → α} (h : n ≤ i) : catF n c d i = d (i - n) := by unfold catF; rw [show Nat.ble (i + 1) n = false from by rw [← Bool.not_eq_true]; exact fun e => by have := Nat.le_of_ble_eq_true e; omega]; rfl
/-- The least common denominator of the first n. -/
def lcd (q : Nat → Rat) : Nat → Nat
  | 0 => 1
  | n + 1 => Nat.lcm (lcd q n) (q n).den
theorem lcd_congr {p q : Nat → Rat} : ∀ {n : Nat}, (∀ i, i < n → p i = q i) → lcd p n = lcd q n
  | 0, _ => rfl
  | n + 1, h => by show Nat.lcm _ _ = Nat.lcm _ _; rw [lcd_congr (fun i hi => h i (by omega)), h n (by omega)]
theorem lcd_pos {q : Nat → Rat} : ∀ n, 0 < lcd q n
  | 0 => Nat.one_pos
  | n + 1 => Nat.lcm_pos (lcd_pos n) (q n).den_pos
theorem lcd_dvd {q : Nat → Rat} {i : Nat} : ∀ {n}, i < n → (q i).den ∣ lcd q n
  | 0, h => absurd h (Nat.not_lt_zero _)
  | n + 1, h => by
    rcases Nat.lt_or_ge i n with h1 | h1
    · exact Nat.dvd_trans (lcd_dvd h1) (Nat.dvd_lcm_left _ _)
    · obtain rfl : i = n := by omega
      exact Nat.dvd_lcm_right _ _
theorem lcd_cat {p q : Nat → Rat} {n : Nat} : ∀ m, lcd (catF n p q) (n + m) = Nat.lcm (lcd p n) (lcd q m)
  | 0 => by
    rw [Nat.add_zero, show lcd q 0 = 1 from rfl, Nat.lcm_one_right]
    exact lcd_congr fun i hi => catF_l hi
  | m + 1 => by
    show Nat.lcm (lcd (catF n p q) (n + m)) (catF n p q (n + m)).den = Nat.lcm _ (Nat.lcm _ _)
    rw [lcd_cat m, catF_r (Nat.le_add_right _ _), Nat.add_sub_cancel_left, Nat.lcm_assoc]
theorem gcdN_cg {c d : Nat → Int} : ∀ {n : Nat}, (∀ i, i < n → c i = d i) → gcdN c n = gcdN d n
  | 0, _ => rfl
  | n + 1, h => by show Nat.gcd (gcdN c n) _ = Nat.gcd (gcdN d n) _; rw [gcdN_cg (fun i hi => h i (by omega)), h n (by omega)]
theorem gcdN_cat {c d : Nat → Int} {n : Nat} : ∀ m, gcdN (catF n c d) (n + m) = Nat.gcd (gcdN c n) (gcdN d m)
  | 0 => by
    rw [Nat.add_zero, show gcdN d 0 = 0 from rfl, Nat.gcd_zero_right]
    exact gcdN_cg fun i hi => catF_l hi
  | m + 1 => by
    show Nat.gcd (gcdN (catF n c d) (n + m)) (catF n c d (n + m)).natAbs = Nat.gcd _ (Nat.gcd _ _)
    rw [gcdN_cat m, catF_r (Nat.le_add_right _ _), Nat.add_sub_cancel_left, Nat.gcd_assoc]
theorem gcdN_dvd {c : Nat → Int} {i : Nat} : ∀ {n}, i < n → gcdN c n ∣ (c i).natAbs
  | 0, h => absurd h (Nat.not_lt_zero _)
  | n + 1, h => by
    rcases Nat.lt_or_ge i n with h1 | h1
    · exact Nat.dvd_trans (Nat.gcd_dvd_left _ _) (gcdN_dvd h1)
    · obtain rfl : i = n := by omega
      exact Nat.gcd_dvd_right _ _
theorem dv_left {D a g : Nat} (hg : 0 < g) (h : g ∣ a) (ha : a ∣ D) : D / a ∣ D / g := by
  obtain ⟨e, rfl⟩ := h
  obtain ⟨f, rfl⟩ := ha
  rcases Nat.eq_zero_or_pos e with rfl | he
  · simp
  · rw [Nat.mul_div_cancel_left _ (Nat.mul_pos hg he), Nat.mul_assoc, Nat.mul_div_cancel_left _ hg]
    exact Nat.dvd_mul_left _ _
/-- D over divisors. -/
theorem lcm_div {D a b : Nat} (hD : 0 < D) (ha : a ∣ D) (hb : b ∣ D) : Nat.lcm (D / a) (D / b) = D / Nat.gcd a b := by
  have ha0 : 0 < a := Nat.pos_of_dvd_of_pos ha hD
  have hb0 : 0 < b := Nat.pos_of_dvd_of_pos hb hD
  have hg0 : 0 < Nat.gcd a b := Nat.gcd_pos_of_pos_left _ ha0
  have hgD : Nat.gcd a b ∣ D := Nat.dvd_trans (Nat.gcd_dvd_left _ _) ha
  apply Nat.dvd_antisymm
  · apply Nat.lcm_dvd
    · exact dv_left hg0 (Nat.gcd_dvd_left _ _) ha
    · exact dv_left hg0 (Nat.gcd_dvd_right _ _) hb
  · have h1 : D ∣ a * Nat.lcm (D / a) (D / b) := by
      have := Nat.mul_dvd_mul_left a (Nat.dvd_lcm_left (D / a) (D / b))
      rwa [Nat.mul_div_cancel' ha] at this
    have h2 : D ∣ b * Nat.lcm (D / a) (D / b) := by
      have := Nat.mul_dvd_mul_left b (Nat.dvd_lcm_right (D / a) (D / b))
      rwa [Nat.mul_div_cancel' hb] at this
    have h3 := Nat.dvd_gcd h1 h2
    rw [Nat.gcd_mul_right] at h3
    have h4 : Nat.gcd a b * (D / Nat.gcd a b) ∣ Nat.gcd a b * Nat.lcm (D / a) (D / b) := by rwa [Nat.mul_div_cancel' hgD]
    exact Nat.dvd_of_mul_dvd_mul_left hg0 h4
/-- Whole numbers over D. -/
def ov (D : Int) (c : Nat → Int) : Nat → Rat := fun i => rc c i * mkR 1 D
theorem ov_div {D : Int} (hD : D ≠ 0) (c : Nat → Int) (i : Nat) : ov D c i = Rat.divInt (c i) D := by
  show ((c i : Int) : Rat) * mkR 1 D = _
  rw [← mkR_int, mkR_ne (by decide), mkR_ne hD, Rat.divInt_mul_divInt, Int.mul_one, Int.one_mul]
theorem den_div {a D : Int} (hD : D ≠ 0) : (Rat.divInt a D).den = D.natAbs / Nat.gcd D.natAbs a.natAbs := by
  rw [Rat.den_divInt, if_neg hD]; rfl
theorem lcd_ov {D : Int} (hD : D ≠ 0) {c : Nat → Int} : ∀ n, lcd (ov D c) n = D.natAbs / Nat.gcd D.natAbs (gcdN c n)
  | 0 => by
    show 1 = D.natAbs / Nat.gcd D.natAbs 0
    rw [Nat.gcd_zero_right, Nat.div_self (by omega)]
  | n + 1 => by
    show Nat.lcm (lcd (ov D c) n) (ov D c n).den = D.natAbs / Nat.gcd D.natAbs (Nat.gcd _ _)
    rw [lcd_ov hD n, ov_div hD, den_div hD, lcm_div (by omega) (Nat.gcd_dvd_left _ _) (Nat.gcd_dvd_left _ _)]
    congr 1
    apply Nat.dvd_antisymm
    · refine Nat.dvd_gcd (Nat.dvd_trans (Nat.gcd_dvd_left _ _) (Nat.gcd_dvd_left _ _)) (Nat.dvd_gcd (Nat.dvd_trans (Nat.gcd_dvd_left _ _) (Nat.gcd_dvd_right _ _)) (Nat.dvd_trans (Nat.gcd_dvd_right _ _) (Nat.gcd_dvd_right _ _)))
    · exact Nat.dvd_gcd (Nat.dvd_gcd (Nat.gcd_dvd_left _ _) (Nat.dvd_trans (Nat.gcd_dvd_right _ _) (Nat.gcd_dvd_left _ _))) (Nat.dvd_gcd (Nat.gcd_dvd_left _ _) (Nat.dvd_trans (Nat.gcd_dvd_right _ _) (Nat.gcd_dvd_right _ _)))
/-- The greatest common divisor of D and two rows. -/
def gD (D : Int) (n : Nat) (x : Nat → Int) (m : Nat) (y : Nat → Int) : Nat := gcdN (catF (1 + n) (catF 1 (fun i => if i = 0 then D else 0) x) y) (1 + n + m)
theorem gD_eq {D : Int} {n m : Nat} {x y : Nat → Int} : gD D n x m y = Nat.gcd (Nat.gcd D.natAbs (gcdN x n)) (gcdN y m) := by
  unfold gD
  rw [gcdN_cat, gcdN_cat]
  show Nat.gcd (Nat.gcd (Nat.gcd 0 D.natAbs) _) _ = _
  rw [Nat.gcd_zero_left]
theorem gD_pos {D : Int} {n m : Nat} {x y : Nat → Int} (hD : D ≠ 0) : 0 < gD D n x m y := by
  rw [gD_eq]; exact Nat.gcd_pos_of_pos_left _ (Nat.gcd_pos_of_pos_left _ (by omega))
theorem gD_D {D : Int} {n m : Nat} {x y : Nat → Int} : gD D n x m y ∣ D.natAbs := by
  rw [gD_eq]; exact Nat.dvd_trans (Nat.gcd_dvd_left _ _) (Nat.gcd_dvd_left _ _)
theorem gD_x {D : Int} {n m i : Nat} {x y : Nat → Int} (h : i < n) : gD D n x m y ∣ (x i).natAbs := by
  rw [gD_eq]; exact Nat.dvd_trans (Nat.dvd_trans (Nat.gcd_dvd_left _ _) (Nat.gcd_dvd_right _ _)) (gcdN_dvd h)
theorem gD_y {D : Int} {n m i : Nat} {x y : Nat → Int} (h : i < m) : gD D n x m y ∣ (y i).natAbs := by
  rw [gD_eq]; exact Nat.dvd_trans (Nat.gcd_dvd_right _ _) (gcdN_dvd h)
theorem lcd_gD {D : Int} {n m : Nat} {x y : Nat → Int} (hD : D ≠ 0) : lcd (catF n (ov D x) (ov D y)) (n + m) = D.natAbs / gD D n x m y := by
  rw [lcd_cat, lcd_ov hD, lcd_ov hD, lcm_div (by omega) (Nat.gcd_dvd_left _ _) (Nat.gcd_dvd_left _ _), gD_eq]
  congr 1
  apply Nat.dvd_antisymm
  · exact Nat.dvd_gcd (Nat.gcd_dvd_left _ _) (Nat.dvd_trans (Nat.gcd_dvd_right _ _) (Nat.gcd_dvd_right _ _))
  · exact Nat.dvd_gcd (Nat.gcd_dvd_left _ _) (Nat.dvd_gcd (Nat.dvd_trans (Nat.gcd_dvd_left _ _) (Nat.gcd_dvd_left _ _)) (Nat.gcd_dvd_right _ _))
/-- It, with D's sign. -/
def gS (D : Int) (g : Nat) : Int := if D < 0 then -(g : Int) else g
theorem gS_ne {D : Int} {g : Nat} (h : 0 < g) : gS D g ≠ 0 := by unfold gS; split <;> omega
theorem gS_dvd {D z : Int} {g : Nat} (h : g ∣ z.natAbs) : gS D g ∣ z := by
  unfold gS; split
  · exact Int.neg_dvd.2 (Int.ofNat_dvd_left.2 h)
  · exact Int.ofNat_dvd_left.2 h
/-- A normal curve's denominator, and its coefficients. -/
theorem nc_D {D : Int} {n m : Nat} {x y : Nat → Int} (hD : D ≠ 0) : D / gS D (gD D n x m y) = ((lcd (catF n (ov D x) (ov D y)) (n + m) : Nat) : Int) := by
  rw [lcd_gD hD, Int.natCast_ediv]
  unfold gS
  split
  · rw [Int.ediv_neg]
    rw [show ((D.natAbs : Nat) : Int) = -D by omega, Int.neg_ediv_of_dvd (Int.ofNat_dvd_left.2 gD_D)]
  · rw [show ((D.natAbs : Nat) : Int) = D by omega]
theorem nc_x {D z g : Int} {L : Nat} (hD : D ≠ 0) (hg : g ≠ 0) (hgD : g ∣ D) (hgz : g ∣ z) (hL : D / g = (L : Int)) : z / g = (Rat.divInt z D * mkR (L : Int) 1).num := by
  obtain ⟨e, rfl⟩ := hgD
  obtain ⟨f, rfl⟩ := hgz
  rw [Int.mul_ediv_cancel_left _ hg] at hL ⊢
  rw [mkR_ne (by decide), Rat.divInt_mul_divInt, ← hL, Int.mul_one]
  have he : e ≠ 0 := fun h => hD (by rw [h, Int.mul_zero])
  rw [show g * f * e = (g * e) * f by rw [Int.mul_assoc, Int.mul_comm f e, ← Int.mul_assoc]]
  have := Rat.divInt_mul_left (n := f) (d := 1) hD
  rw [Int.mul_one] at this
  rw [this, show Rat.divInt f 1 = (f : Rat) from (mkR_ne (by decide)).symm.trans (mkR_int f), Rat.num_intCast]

/-- A normal curve's coefficients, over L. -/
def cX (L : Nat) (c : Nat → Rat) : Nat → Int := fun i => (c i * mkR (L : Int) 1).num
theorem cX_z {L n : Nat} {c : Nat → Rat} (h : ∀ i, n ≤ i → c i = 0) : ∀ i, n ≤ i → cX L c i = 0 := fun i hi => by unfold cX; rw [h i hi, Rat.zero_mul]; rfl
def cvn (K n m L : Nat) (p q : Nat → Rat) : List Lf := [prow K n (cX L p), prow K m (cX L q)] ++ zn K (L : Int)
theorem cvn_mono {K M n m L : Nat} {p q : Nat → Rat} (h : K ≤ M) : ∀ B w cs, LsR B w (cvn K n m L p q) cs → LsR B w (cvn M n m L p q) cs
  | B, w, [a, b, c, d], ⟨h1, h2, h3, h4, h5⟩ => ⟨prow_le h (fun _ _ => rfl) _ _ _ h1, prow_le h (fun _ _ => rfl) _ _ _ h2, h3, lr_mono h _ _ _ h4, h5⟩
theorem le_cvn {K M n n' m m' L L' : Nat} {p p' q q' : Nat → Rat} (h : K ≤ M) (e1 : n = n') (e2 : m = m') (e3 : L = L') (e4 : ∀ i, i < n → p i = p' i) (e5 : ∀ i, i < m → q i = q' i) : AV.le (.d (.agg (cvn K n m L p q))) (.d (.agg (cvn M n' m' L' p' q'))) := by
  subst e1; subst e2; subst e3
  refine le_agg fun B w cs hcs => ?_
  match cs, hcs with
  | [a, b, c, d], ⟨h1, h2, h3, h4, h5⟩ => exact ⟨prow_le h (fun i hi => by unfold cX; rw [e4 i hi]) _ _ _ h1, prow_le h (fun i hi => by unfold cX; rw [e5 i hi]) _ _ _ h2, h3, lr_mono h _ _ _ h4, h5⟩
/-- Made of its parts. -/
theorem le_cvn3 {K1 K2 K3 M n n' m m' L : Nat} {x y : Nat → Int} {D : Int} {p q : Nat → Rat} (h1 : K1 ≤ M) (h2 : K2 ≤ M) (h3 : K3 ≤ M) (e1 : n = n') (e2 : m = m') (e3 : D = (L : Int)) (e4 : ∀ i, i < n → x i = cX L p i) (e5 : ∀ i, i < m → y i = cX L q i) : AV.le (.d (.agg ([prow K1 n x, prow K2 m y] ++ zn K3 D))) (.d (.agg (cvn M n' m' L p q))) := by
  subst e1; subst e2; subst e3
  refine le_agg fun B w cs hcs => ?_
  match cs, hcs with
  | [a, b, c, d], ⟨k1, k2, k3, k4, k5⟩ => exact ⟨prow_le h1 e4 _ _ _ k1, prow_le h2 e5 _ _ _ k2, k3, lr_mono h3 _ _ _ k4, k5⟩
theorem ls_abd {a b a' b' : Lf} {ds ds' : List Lf} (ha : ∀ B w c, LfR B w a c → LfR B w a' c) (hb : ∀ B w c, LfR B w b c → LfR B w b' c) (hd : ∀ B w cs, LsR B w ds cs → LsR B w ds' cs) : ∀ B w cs, LsR B w (a :: b :: ds) cs → LsR B w ([a', b'] ++ ds') cs
  | B, w, c :: d :: cs, ⟨h1, h2, h3⟩ => ⟨ha _ _ _ h1, hb _ _ _ h2, hd _ _ _ h3⟩

/-! ### Rows of numbers one behind the other -/
def RLe (n : Nat) (el : Nat → Nat → Lf) (K : Nat) (c : Nat → Int) : Prop := ∀ i, i < n → ∀ j, j < 2 → ∀ B w v, LfR B w (el i j) v → LfR B w (zel K c i j) v
theorem rle_one {K L : Nat} {z : Int} (h : K ≤ L) : RLe 1 (fun i' j' => ((zn K z)[i' * 2 + j']?).getD (.v undef)) L (fun i => if i = 0 then z else 0) := by
  intro i hi j hj B w v hv
  obtain rfl : i = 0 := by omega
  match j, hj with
  | 0, _ => exact hv
  | 1, _ => exact lr_mono h _ _ _ hv
theorem rle_z {n K L : Nat} {c : Nat → Int} (h : K ≤ L) : RLe n (zel K c) L c := zel_le h (fun _ _ => rfl)
theorem rle_app {n m K : Nat} {el el2 : Nat → Nat → Lf} {c d : Nat → Int} (h1 : RLe n el K c) (h2 : RLe m el2 K d) : RLe (n + m) (appEl n el el2) K (catF n c d) := by
  intro i hi j hj B w v hv
  unfold appEl at hv
  unfold zel
  by_cases hin : i < n
  · rw [show Nat.ble (i + 1) n = true from Nat.ble_eq_true_of_le hin] at hv
    rw [catF_l hin]
    exact h1 i hin j hj _ _ _ hv
  · rw [show Nat.ble (i + 1) n = false from by rw [← Bool.not_eq_true]; exact fun h => hin (Nat.le_of_ble_eq_true h)] at hv
    rw [catF_r (by omega)]
    exact h2 (i - n) (by omega) j hj _ _ _ hv
theorem catF_z {n m : Nat} {c d : Nat → Int} (h : ∀ i, m ≤ i → d i = 0) : ∀ i, n + m ≤ i → catF n c d i = 0 := fun i hi => by rw [catF_r (by omega)]; exact h _ (by omega)
theorem isp_rle {n K : Nat} {el : Nat → Nat → Lf} {c : Nat → Int} (h : RLe n el K c) (hz : ∀ i, n ≤ i → c i = 0) : IsP (.row 2 n el) K n c := by
  have h0 := isp (K := K) (n := n) hz
  obtain ⟨⟨f, h2, h3⟩, h4⟩ := h0
  exact ⟨⟨f, fun B w v hv => h2 _ _ _ (row_le h _ _ _ hv), h3⟩, h4⟩
/-! ### Rows of rationals -/
def RLeQ (n : Nat) (el : Nat → Nat → Lf) (K : Nat) (c : Nat → Rat) : Prop := ∀ i, i < n → ∀ j, j < 4 → ∀ B w v, LfR B w (el i j) v → LfR B w (qel K c i j) v
theorem rleq {n K L : Nat} {c : Nat → Rat} (h : K ≤ L) : RLeQ n (qel K c) L c := qel_le h (fun _ _ => rfl)
theorem rleq_app {n m K : Nat} {el el2 : Nat → Nat → Lf} {c d : Nat → Rat} (h1 : RLeQ n el K c) (h2 : RLeQ m el2 K d) : RLeQ (n + m) (appEl n el el2) K (catF n c d) := by
  intro i hi j hj B w v hv
  unfold appEl at hv
  unfold qel
  by_cases hin : i < n
  · rw [show Nat.ble (i + 1) n = true from Nat.ble_eq_true_of_le hin] at hv
    rw [catF_l hin]
    exact h1 i hin j hj _ _ _ hv
  · rw [show Nat.ble (i + 1) n = false from by rw [← Bool.not_eq_true]; exact fun h => hin (Nat.le_of_ble_eq_true h)] at hv
    rw [catF_r (by omega)]
    exact h2 (i - n) (by omega) j hj _ _ _ hv
theorem le_rleq {n K : Nat} {el : Nat → Nat → Lf} {c : Nat → Rat} (h : RLeQ n el K c) : AV.le (.d (.one (.row 4 n el))) (.d (.one (qrow K n c))) := le_one (row_le h)

/-! ### Curves -/
def nzD (D : Int) : Int := if D = 0 then 1 else D
theorem nzD_ne (D : Int) : nzD D ≠ 0 := by unfold nzD; split <;> omega
def crL (n m : Nat) (p q : Nat → Rat) : Nat := lcd (catF (dg p n) p q) (dg p n + dg q m)
/-- A NORMAL CURVE of rational coefficients p, q. -/
def crv (K n m : Nat) (p q : Nat → Rat) : List Lf := cvn K (dg p n) (dg q m) (crL n m p q) p q
theorem le_crv {K M n n' m m' : Nat} {p p' q q' : Nat → Rat} (h : K ≤ M) (zp : ∀ i, n ≤ i → p i = 0) (zq : ∀ i, m ≤ i → q i = 0) (zp' : ∀ i, n' ≤ i → p' i = 0) (zq' : ∀ i, m' ≤ i → q' i = 0) (e4 : ∀ i, p i = p' i) (e5 : ∀ i, q i = q' i) : AV.le (.d (.agg (crv K n m p q))) (.d (.agg (crv M n' m' p' q'))) := by
  obtain rfl := funext e4
  obtain rfl := funext e5
  have h1 := dg_eq zp zp'
  have h2 := dg_eq zq zq'
  exact le_cvn h h1 h2 (by unfold crL; rw [h1, h2]) (fun _ _ => rfl) (fun _ _ => rfl)
theorem dg_same {α β : Type} [DecidableEq α] [OfNat α 0] [DecidableEq β] [OfNat β 0] {c : Nat → α} {d : Nat → β} : ∀ {n : Nat}, (∀ i, i < n → (c i = 0 ↔ d i = 0)) → dg c n = dg d n
  | 0, _ => rfl
  | n + 1, h => by
    unfold dg
    by_cases h0 : c n = 0
    · rw [if_pos h0, if_pos ((h n (by omega)).1 h0), dg_same (n := n) (fun i hi => h i (by omega))]
    · rw [if_neg h0, if_neg (fun e => h0 ((h n (by omega)).2 e))]
theorem dg_dg {α : Type} [DecidableEq α] [OfNat α 0] (c : Nat → α) (n : Nat) : dg c (dg c n) = dg c n := dg_stop dg_or
theorem ov_z {D : Int} (hD : D ≠ 0) {c : Nat → Int} {i : Nat} : ov D c i = 0 ↔ c i = 0 := by
  rw [ov_div hD]
  constructor
  · intro h
    have h1 := congrArg Rat.num h
    rw [Rat.num_divInt] at h1
    have h2 : (Int.gcd D (c i) : Int) ∣ D.sign * c i := Int.dvd_trans (Int.gcd_dvd_right _ _) (Int.dvd_mul_left _ _)
    have h3 : D.sign * c i = 0 := by
      have := Int.ediv_mul_cancel h2
      rw [h1] at this
      rw [← this]; exact Int.zero_mul _
    rcases Int.mul_eq_zero.1 h3 with h4 | h4
    · exact absurd (Int.sign_eq_zero_iff_zero.1 h4) hD
    · exact h4
  · intro h; rw [h]; exact Rat.zero_divInt D
theorem ov_zz {D : Int} (hD : D ≠ 0) {c : Nat → Int} {n : Nat} (h : ∀ i, n ≤ i → c i = 0) : ∀ i, n ≤ i → ov D c i = 0 := fun i hi => (ov_z hD).2 (h i hi)
theorem dg_ov {D : Int} (hD : D ≠ 0) (c : Nat → Int) (n : Nat) : dg (ov D c) n = dg c n := dg_same fun i _ => ov_z hD
/-- Each over a number. -/
def fdv (c : Nat → Int) (g : Int) : Nat → Int := fun i => c i / g
theorem fdv_z {c : Nat → Int} {g : Int} {n : Nat} (h : ∀ i, n ≤ i → c i = 0) : ∀ i, n ≤ i → fdv c g i = 0 := fun i hi => by unfold fdv; rw [h i hi]; exact Int.zero_ediv _
theorem dg_fdv {c : Nat → Int} {g : Int} {n : Nat} (hg : g ≠ 0) (h : ∀ i, i < n → g ∣ c i) : dg (fdv c g) n = dg c n := dg_same fun i hi => by
  obtain ⟨e, he⟩ := h i hi
  unfold fdv
  rw [he, Int.mul_ediv_cancel_left _ hg]
  constructor
  · rintro rfl; rw [Int.mul_zero]
  · intro h; rcases Int.mul_eq_zero.1 h with h | h; exact absurd h hg; exact h
section
variable {D : Int} {n m K1 K2 K3 M : Nat} {x y : Nat → Int}
/-- WHAT norm MAKES. -/
theorem le_norm (hD : D ≠ 0) (h1 : K1 ≤ M) (h2 : K2 ≤ M) (h3 : K3 ≤ M) : AV.le (.d (.agg ([prow K1 (dg (fdv x (gS D (gD D (dg x n) x (dg y m) y))) (dg x n)) (fdv x (gS D (gD D (dg x n) x (dg y m) y))), prow K2 (dg (fdv y (gS D (gD D (dg x n) x (dg y m) y))) (dg y m)) (fdv y (gS D (gD D (dg x n) x (dg y m) y)))] ++ zn K3 (D / gS D (gD D (dg x n) x (dg y m) y))))) (.d (.agg (crv M n m (ov D x) (ov D y)))) := by
  have hg := gS_ne (D := D) (gD_pos (n := dg x n) (m := dg y m) (x := x) (y := y) hD)
  have hgx : ∀ i, i < dg x n → gS D (gD D (dg x n) x (dg y m) y) ∣ x i := fun i hi => gS_dvd (gD_x hi)
  have hgy : ∀ i, i < dg y m → gS D (gD D (dg x n) x (dg y m) y) ∣ y i := fun i hi => gS_dvd (gD_y hi)
  have hL : D / gS D (gD D (dg x n) x (dg y m) y) = (crL n m (ov D x) (ov D y) : Int) := by unfold crL; rw [dg_ov hD, dg_ov hD]; exact nc_D hD
  have hd1 := dg_fdv hg hgx
  have hd2 := dg_fdv hg hgy
  rw [dg_dg] at hd1 hd2
  refine le_cvn3 h1 h2 h3 (by rw [hd1, dg_ov hD]) (by rw [hd2, dg_ov hD]) hL (fun i hi => ?_) (fun i hi => ?_)
  · unfold cX; rw [ov_div hD]; exact nc_x hD hg (gS_dvd gD_D) (hgx i (by omega)) hL
  · unfold cX; rw [ov_div hD]; exact nc_x hD hg (gS_dvd gD_D) (hgy i (by omega)) hL
end
theorem isp_g {K K1 K2 K3 n m : Nat} {D : Int} {x y : Nat → Int} (h1 : K1 ≤ K) (h2 : K2 ≤ K) (h3 : K3 ≤ K) (hy : ∀ i, m ≤ i → y i = 0) : IsP (.row 2 (1 + n + m) (appEl (1 + n) (appEl 1 (fun i' j' => ((zn K3 D)[i' * 2 + j']?).getD (.v undef)) (zel K1 x)) (zel K2 y))) K (1 + n + m) (catF (1 + n) (catF 1 (fun i => if i = 0 then D else 0) x) y) :=
  isp_rle (rle_app (rle_app (rle_one h3) (rle_z h1)) (rle_z h2)) (catF_z hy)

theorem ov_one (x : Nat → Int) (i : Nat) : ov (nzD 0) x i = rc x i := by
  show rc x i * mkR 1 (nzD 0) = rc x i
  rw [show nzD 0 = 1 from rfl, mkR_int]
  exact Rat.mul_one _
theorem cX_den {L : Nat} {p : Nat → Rat} {i : Nat} (h : (p i).den ∣ L) : rc (cX L p) i = p i * mkR (L : Int) 1 := by
  obtain ⟨e, rfl⟩ := h
  have h := mkR_div (x := (p i).num) (y := ((p i).den : Int)) (by have := (p i).den_pos; omega)
  rw [mkR_self] at h
  have h2 : p i * mkR (((p i).den * e : Nat) : Int) 1 = (((p i).num * (e : Int) : Int) : Rat) := by
    rw [mkR_int, Int.natCast_mul, Rat.intCast_mul, ← Rat.mul_assoc, h, ← Rat.intCast_mul]
  show (((p i * mkR (((p i).den * e : Nat) : Int) 1).num : Int) : Rat) = _
  rw [h2, Rat.num_intCast]
theorem ov_cX {L : Nat} {p : Nat → Rat} {i : Nat} (h : (p i).den ∣ L) (hL : L ≠ 0) : ov (L : Int) (cX L p) i = p i := by
  show rc (cX L p) i * mkR 1 (L : Int) = _
  rw [cX_den h, Rat.mul_assoc]
  have h1 := mkR_div (x := 1) (y := (L : Int)) (by omega)
  rw [mkR_int, Rat.mul_comm ((L : Int) : Rat), h1]
  exact Rat.mul_one _
theorem crL_pos {n m : Nat} {p q : Nat → Rat} : 0 < crL n m p q := lcd_pos _
theorem nzD_crL {n m : Nat} {p q : Nat → Rat} : nzD (crL n m p q : Int) = (crL n m p q : Int) := if_neg (by have := crL_pos (n := n) (m := m) (p := p) (q := q); omega)
theorem ov_crL {n m : Nat} {p q : Nat → Rat} (zp : ∀ i, n ≤ i → p i = 0) (i : Nat) : ov (nzD (crL n m p q : Int)) (cX (crL n m p q) p) i = p i := by
  rw [nzD_crL]
  have h0 := crL_pos (n := n) (m := m) (p := p) (q := q)
  by_cases h : i < dg p n
  · refine ov_cX ?_ (by omega)
    have := lcd_dvd (q := catF (dg p n) p q) (i := i) (n := dg p n + dg q m) (by omega)
    rwa [catF_l h] at this
  · have hp : p i = 0 := dg_z zp i (by omega)
    rw [hp, ov_z (by omega)]
    unfold cX; rw [hp, Rat.zero_mul]; rfl
theorem ov_crL2 {n m : Nat} {p q : Nat → Rat} (zq : ∀ i, m ≤ i → q i = 0) (i : Nat) : ov (nzD (crL n m p q : Int)) (cX (crL n m p q) q) i = q i := by
  rw [nzD_crL]
  have h0 := crL_pos (n := n) (m := m) (p := p) (q := q)
  by_cases h : i < dg q m
  · refine ov_cX ?_ (by omega)
    have := lcd_dvd (q := catF (dg p n) p q) (i := dg p n + i) (n := dg p n + dg q m) (by omega)
    rwa [catF_r (by omega), Nat.add_sub_cancel_left] at this
  · have hp : q i = 0 := dg_z zq i (by omega)
    rw [hp, ov_z (by omega)]
    unfold cX; rw [hp, Rat.zero_mul]; rfl
/-- A row moved: c at t + r. -/
def shf (c : Nat → Rat) (n : Nat) (r : Rat) : Nat → Rat := hvQ c r n n
theorem shf_z {c : Nat → Rat} {n : Nat} {r : Rat} : ∀ i, n ≤ i → shf c n r i = 0 := hvQ_z n
theorem mv_ov {x : Nat → Int} {u y : Int} {n k : Nat} (hy : ¬ y = 0) (hk : n - 1 ≤ k) (i : Nat) : ov (nzD (y ^ k)) (fscl (mvZ x u y n n) (y ^ (k - (n - 1)))) i = shf (rc x) n (mkR u y) i := by
  have hyk : y ^ k ≠ 0 := Int.pow_ne_zero hy
  rw [show nzD (y ^ k) = y ^ k from if_neg hyk]
  have h := mv_hv (a := x) (x := u) (y := y) (top := n) hy n i
  have hY : ((y : Int) : Rat) ≠ 0 := fun e => hy (Rat.intCast_eq_zero_iff.1 e)
  have hYk : (y : Rat) ^ k ≠ 0 := pow_ne hY k
  have h1 := mkR_div (x := 1) (y := y ^ k) hyk
  rw [cast_pow] at h1
  show ((mvZ x u y n n i * y ^ (k - (n - 1)) : Int) : Rat) * mkR 1 (y ^ k) = hvQ (rc x) (mkR u y) n n i
  rw [Rat.intCast_mul, cast_pow]
  have h2 : ((mvZ x u y n n i : Int) : Rat) * (y : Rat) ^ (k - (n - 1)) = hvQ (rc x) (mkR u y) n n i * (y : Rat) ^ k := by
    cases n with
    | zero => show ((0 : Int) : Rat) * _ = (0 : Rat) * _; rw [Rat.zero_mul]; exact Rat.zero_mul _
    | succ s =>
      rw [Nat.add_sub_cancel] at hk ⊢
      have h3 : ((mvZ x u y (s + 1) (s + 1) i : Int) : Rat) = (y : Rat) ^ s * hvQ (rc x) (mkR u y) (s + 1) (s + 1) i := by
        rw [Rat.pow_succ] at h
        have : (((mvZ x u y (s + 1) (s + 1) i : Int) : Rat) - (y : Rat) ^ s * hvQ (rc x) (mkR u y) (s + 1) (s + 1) i) * (y : Rat) = 0 := by grind
        rcases Rat.mul_eq_zero.1 this with h4 | h4
        · grind
        · exact absurd h4 hY
      rw [h3]
      have h5 : (y : Rat) ^ k = (y : Rat) ^ s * (y : Rat) ^ (k - s) := by
        obtain ⟨d, rfl⟩ : ∃ d, k = s + d := ⟨k - s, by omega⟩
        rw [Nat.add_sub_cancel_left, pow_addQ]
      rw [h5]; grind
  rw [h2]
  have h6 : (y : Rat) ^ k * mkR 1 (y ^ k) = 1 := by rw [Rat.mul_comm]; exact h1
  rw [Rat.mul_assoc, h6]; exact Rat.mul_one _
end Go.Proofs.YtcnfblffeghboaaGreat

/-
  THE ABSTRACT MACHINE, 22: a row written out that is the frame's own (it may be appended to). No condition; nothing of the program.
-/
set_option linter.unusedVariables false
set_option linter.unusedSimpArgs false
namespace Go.Proofs.YtcnfblffeghboaaGreat
open Go.RowKit

/-- A row written out, the frame's own. -/
def evR (T : TypeId → Option TI) (s : AS) : Op → Option AO
  | .buildSlice t len parts => match T t with
    | none => none
    | some ti => match ti.elem with
      | none => none
      | some e => match T e, getps s parts.toList with
        | some te, some ps => if te.zero.length = te.n ∧ te.n ≠ 0 ∧ len * te.n ≤ 16777216 then match fillL (fun i => some (i * te.n, te.n)) ((List.range (len * te.n)).map fun q => Lf.v ((te.zero[q % te.n]?).getD undef)) ps with
          | some r => some (.row e te.n len fun i j => (r[i * te.n + j]?).getD (.v undef))
          | none => none
          else none
        | _, _ => none
  | _ => none

theorem evR_ok {P : Program} {T : TypeId → Option TI} (hT : TOk P T) {s : AS} {o : Oper} {ob : AO} {ρ : Rho} {B0 : BS} {w0 w : World} {hp : List (Nat × AO)} {a : Act} (hsl : Slots ρ (Bd ρ B0) w s.sl a) (hc : Core ρ B0 w0 w hp) (h : evR T s o.op = some ob) :
    ∃ v w', (execOp a.eval o).run P w = .ok (.value v) w' ∧ Below w.heap.size w w' ∧ (∀ b, vblk v = some b → w.heap.size ≤ b) ∧ ∀ B', (∀ b, b < w.heap.size → B' b → Bd ρ B0 b) → OR B' w0 w' ob v := by
  unfold evR at h
  unfold execOp
  split at h
  · rename_i t len parts hop
    rw [hop]
    split at h
    · cases h
    rename_i ti hti
    replace hti := hT _ _ hti
    split at h
    · cases h
    rename_i e he
    split at h
    · rename_i te ps hte hps
      replace hte := hT _ _ hte
      split at h
      · rename_i hcond
        obtain ⟨hzl, hn0, hsm⟩ := hcond
        split at h
        · rename_i r hr
          cases h
          obtain ⟨i, z, dd, h1, h2, h3, h4, h5, h6, h7, h8, h9, _⟩ := ti_parts hti
          have := h9 e he
          subst this
          obtain ⟨i', z', dd', k1, k2, k3, k4, k5, k6, k7, _, _, _, _, hall⟩ := ti_parts hte
          have hz' : z'.cells = te.zero.toArray := by rw [← k5]
          obtain ⟨g1, g2⟩ := getps_ok hsl parts.toList ps hps
          have hpos : 0 < te.n := by omega
          have hbase : LsR (Bd ρ B0) w ((List.range (len * te.n)).map fun q => Lf.v ((te.zero[q % te.n]?).getD undef)) ((List.range (len * te.n)).map fun q => (te.zero[q % te.n]?).getD undef) := by
            have := LsR.vs (B := Bd ρ B0) (w := w) (cs := (List.range (len * te.n)).map fun q => (te.zero[q % te.n]?).getD undef) (fun c hcm => by
              obtain ⟨q, _, rfl⟩ := List.mem_map.1 hcm
              rw [List.getElem?_eq_getElem (show q % te.n < te.zero.length by rw [hzl]; exact Nat.mod_lt _ hpos)]
              exact hall _ (List.getElem_mem _))
            rwa [List.map_map] at this
          obtain ⟨rs, hfill, hrs⟩ := fillL_ok (fun i => some (i * te.n, te.n)) ps _ _ r _ hbase hr g1 g2
          have hrl : ∀ (ps : List (Nat × List Lf)) (l r : List Lf), fillL (fun i => some (i * te.n, te.n)) l ps = some r → r.length = l.length := by
            intro ps
            induction ps with
            | nil => intro l r h; simp only [fillL, Option.some.injEq] at h; rw [h]
            | cons p ps ih =>
              intro l r h
              simp only [fillL] at h
              split at h
              · rename_i hcnd
                rw [ih _ _ h]
                simp [layC]; omega
              · cases h
          have hlen : rs.length = len * te.n := by rw [← hrs.len, hrl _ _ _ hr]; simp
          have hm : (parts.map fun x : Nat × Operand => match x with | (i, x) => (i, a.eval x)).toList = parts.toList.map fun q : Nat × Operand => (q.1, a.eval q.2) := by rw [Array.toList_map]
          have hgt : ¬ len * i'.size > 2 ^ 24 := by rw [k4]; omega
          have hrun : (Instr.buildSlice t len (parts.map fun x : Nat × Operand => match x with | (i, x) => (i, a.eval x))).run P w = .ok (.slice (some ⟨w.heap.size, 0, none⟩) len len) (w.alloc (.cells rs.toArray e)) := by
            have hA : ∀ zc : Array Value, (len * te.n = 0 ∨ zc = te.zero.toArray) → (Array.range (len * te.n)).map (fun q => zc[q % zc.size]!) = ((List.range (len * te.n)).map fun q => (te.zero[q % te.n]?).getD undef).toArray := by
              rintro zc (h0 | rfl)
              · rw [h0]; simp
              · rw [← Array.toList_inj]
                simp only [Array.toList_map, Array.toList_range]
                refine List.map_congr_left (fun q _ => ?_)
                have hq : q % te.n < te.zero.length := by rw [hzl]; exact Nat.mod_lt _ hpos
                simp [hzl, getElem!_def, List.getElem?_eq_getElem hq]
            have hfin : ∀ zc : Array Value, (len * te.n = 0 ∨ zc = te.zero.toArray) → (do
                let some cells := Instr.fill (fun i => some (i * te.n, te.n)) ((Array.range (len * te.n)).map (fun q => zc[q % zc.size]!)) (parts.map fun x : Nat × Operand => match x with | (i, x) => (i, a.eval x)).toList | stuck "buildSlice: a part of the wrong size"
                pure (.slice (some (← newRow e cells)) len len) : Sem Value).run P w = .ok (.slice (some ⟨w.heap.size, 0, none⟩) len len) (w.alloc (.cells rs.toArray e)) := by
              intro zc hz
              rw [hA zc hz, hm, hfill]
              rfl
            unfold Instr.buildSlice
            simp only [Sem.run_bind, run_underlying h3, Result.andThen_ok, sizeOf, typeInfo, run_program, k1, Sem.run_pure, k4]
            rw [if_neg (by omega)]
            by_cases hl0 : len * te.n = 0
            · rw [if_pos hl0]
              simp only [Sem.run_pure, Result.andThen_ok, Sem.run_bind]
              exact hfin #[] (Or.inl hl0)
            · rw [if_neg hl0]
              simp only [Sem.run_bind, zeroValue, typeInfo, run_program, Result.andThen_ok, k1, Sem.run_pure, k2, hz']
              exact hfin _ (Or.inr rfl)
          have hlm : len ≤ maxLen := by
            have : len * 1 ≤ len * te.n := Nat.mul_le_mul_left _ hpos
            simp [maxLen]; omega
          refine ⟨_, _, run_value hrun, alloc_bel _ _, fun b hb => by cases hb; exact Nat.le_refl _, fun B' hB => ⟨rs, ⟨hlen, Or.inr ⟨w.heap.size, len, rs.toArray, rfl, hc.bel.size, heap_alloc_new w _, Nat.le_refl _, hlm, by simp [hlen], by simp [← hlen]⟩⟩, fun p q hp hq => ?_⟩⟩
          have hidx : p * te.n + q < len * te.n := by
            have : (p + 1) * te.n ≤ len * te.n := Nat.mul_le_mul_right _ (by omega)
            rw [Nat.add_mul, Nat.one_mul] at this
            omega
          have hrlen : r.length = len * te.n := by rw [hrs.len, hlen]
          obtain ⟨l, hl⟩ : ∃ l, r[p * te.n + q]? = some l := ⟨r[p * te.n + q], by simp [hrlen, hidx]⟩
          obtain ⟨cc, hcc, hlr⟩ := hrs.get hl
          refine ⟨cc, hcc, ?_⟩
          show LfR _ _ ((r[p * te.n + q]?).getD _) cc
          rw [hl]
          exact LfR.mv (.of_below (alloc_bel _ _)) hB _ hlr
        · cases h
      · cases h
    · cases h
  · cases h


section
variable {P : Program} {ops : Array Oper} {Q : Qs} {o : Oper} {l : List Oper} {s : AS}
theorem mR {T : TypeId → Option TI} (hT : TOk P T) (ob : AO) (h : evR T s o.op = some ob) {d : Nat} (hdst : o.dst = some d) (hfr : lk s.hp d = none) (k : AL P ops Q l (s.mk' d ob)) (hg : gst ops s o = some true := by rfl) (hd : dok (some d) s.n = true := by rfl) : AL P ops Q (o :: l) s := by
  rintro B0 w0 a w ⟨ρ, hc, hn, hdf, hs⟩
  obtain ⟨v, w', hr, hb, hv, ho⟩ := evR_ok hT hs hc h
  have hρ : ρ d = none := by
    cases hρ : ρ d with
    | none => rfl
    | some u => obtain ⟨ob', h1, _⟩ := hc.obj d u hρ; rw [hfr] at h1; cases h1
  have ho' := ho (Bd (up ρ d v) B0) (up_new hρ hv)
  have hc' : Core (up ρ d v) B0 w0 w' ((d, ob) :: s.hp) := hc.new hρ hb hv (fun k ob' hk hne => by rw [lk_cons, if_neg (fun e => hne e.symm)]; exact hk) (by rw [lk_cons, if_pos rfl]) ho'
  have hs' : Slots (up ρ d v) (Bd (up ρ d v) B0) w' s.sl a := fun t av ht => let ⟨u, h1, h2⟩ := hs t av ht; ⟨u, h1, h2.new hρ hb hv⟩
  refine wpl_value (gst_ok hg hs) hr (k B0 w0 _ w' ?_)
  rw [hdst]
  exact ⟨_, hc', (by show (a.tmps.setIfInBounds d v).size = s.n; simpa using hn), hdf, slots_put hs' hn (Nat.le_of_ble_eq_true hd) (AO.av_ok ho' (by simp [up]))⟩
end

theorem append_ty {P : Program} {t t' ty e e' : TypeId} {args : Array Value} {w : World} (h : P.underlying t = some (.slice e)) (h' : P.underlying t' = some (.slice e')) : (Builtin.append_ #[t, t'] ty args).run P w = (Builtin.append_ #[t, t] ty args).run P w := by
  unfold Builtin.append_
  cases args[0]? with
  | none => simp
  | some s => cases args[1]? with
    | none => simp
    | some x => cases s <;> simp [Sem.run_bind, run_underlying h, run_underlying h']
set_option maxHeartbeats 4000000 in
theorem mA2 {P : Program} {T : TypeId → Option TI} (hT : TOk P T) {ops : Array Oper} {Q : Qs} {o : Oper} {l : List Oper} {s : AS} {c : Call} {x y : Operand} {t t2 e e2 : TypeId} {ti ti2 te : TI} {id n m d : Nat} {el el2 : Nat → Nat → Lf}
    (hx : geto s x = some (.own id)) (hob : lk s.hp id = some (.row e te.n n el)) (hy : srcOf s y te.n = some (m, el2)) (hbd : (n + m) * te.bytes ≤ 140737488355328) (hmx : n + m ≤ 9223372036854775807) (hc : callOf o.op = some c) (hcal : c.callee = .builtin .append) (hargs : c.args.toList = [x, y]) (hty : c.argTypes.toList = [t, t2]) (hti2 : T t2 = some ti2) (he2 : ti2.elem = some e2) (hti : T t = some ti) (he : ti.elem = some e) (hte : T e = some te) (hz : Nat.beq te.zero.length te.n = true) (h0 : Nat.ble 1 te.n = true)
    (hdst : o.dst = some d) (k : AL P ops Q l ⟨s.n, (d, .own id) :: fzs id .dead (fun _ => .dead) s.sl, (id, .row e te.n (n + m) (appEl n el el2)) :: s.hp⟩) (hg : gst ops s o = some true := by rfl) (hd : dok (some d) s.n = true := by rfl) : AL P ops Q (o :: l) s := by
  rintro B0 w0 a w ⟨ρ, hcr, hn, hdf, hs⟩
  have hop : o.op = .call c := by
    unfold callOf at hc
    split at hc
    · rename_i h; cases hc; exact h
    · cases hc
  obtain ⟨hid, ad, n', cap, hxe⟩ := geto_ok hs hx
  obtain ⟨ob, o1, o2⟩ := hcr.obj id _ hid
  rw [hob] at o1
  cases o1
  obtain ⟨xs, hown, hel⟩ := o2
  obtain ⟨ao, cc, news, hye, hnl, hnil, hmc, hsrc, hel2⟩ := srcOf_ok hs hy
  obtain ⟨i, z, dd, h1, h2, h3, h4, h5, h6, h7, h8, h9, _⟩ := ti_parts (hT _ _ hti)
  have := h9 e he
  subst this
  obtain ⟨i', z', dd', k1, k2, k3, k4, k5, k6, k7, _⟩ := ti_parts (hT _ _ hte)
  have hzl : te.zero.length = te.n := Nat.eq_of_beq_eq_true hz
  have hsz : 0 < te.n := Nat.le_of_ble_eq_true h0
  have hzs : z'.cells.size = te.n := by rw [← hzl, ← k5]; simp
  have hone : ∀ u ∈ news, u.oneCell' = true := by
    intro u hu
    obtain ⟨q, hq, rfl⟩ := List.mem_iff_getElem.1 hu
    rw [hnl] at hq
    have hdiv : q / te.n < m := Nat.div_lt_of_lt_mul (by rw [Nat.mul_comm]; exact hq)
    obtain ⟨u, hu1, hu2⟩ := hel2 (q / te.n) (q % te.n) hdiv (Nat.mod_lt _ hsz)
    rw [Nat.mul_comm, Nat.div_add_mod] at hu1
    obtain ⟨_, hu3⟩ := List.getElem?_eq_some_iff.1 hu1
    rw [hu3]; exact hu2.one
  have hsize : w0.heap.size ≤ w.heap.size := hcr.bel.size
  obtain ⟨v', w', hr, hown', hgrow, hblk⟩ := run_append_am (P := P) (w := w) w0.heap.size t o.type e i' z' te.n te.bytes h3 k1 k2 k4 k7 hzs hsz (a.eval x) n xs hown ao m cc news hnl hnil hmc hsrc hone (by simp [maxLen]; omega) hbd hsize
  obtain ⟨_, _, dd2, _, _, g3, _, _, _, _, _, g9, _⟩ := ti_parts (hT _ _ hti2)
  have := g9 e2 he2
  subst this
  have hr := (append_ty (ty := o.type) (args := #[a.eval x, .slice ao m cc]) (w := w) h3 g3).trans hr
  have hrun : (execOp a.eval o).run P w = .ok (.value v') w' := by
    have ha : c.args = #[x, y] := by rw [← Array.toList_inj]; exact hargs
    have ht : c.argTypes = #[t, t2] := by rw [← Array.toList_inj]; exact hty
    unfold execOp
    rw [hop]
    simp [resolve, hcal, invoke, builtin, ha, ht, hye, hr]
  have hvb : ∀ b, (a.eval x).ownBlock = some b → vblk (a.eval x) = some b := by
    intro b hb
    rw [hxe] at hb ⊢
    cases ad with
    | none => cases hb
    | some q => exact hb
  have hlt := hown.lt
  have hbel : Below w0.heap.size w0 w' := hcr.bel.trans ((Below.refl _ _).grown hgrow hsize (fun k hk => (hlt k hk).1))
  have hkeepb : ∀ b, b < w.heap.size → vblk (a.eval x) ≠ some b → w'.heap[b]? = w.heap[b]? := fun b hb hne => hgrow.block b hb (fun e => hne (hvb b e.symm))
  have hK : Keep (Bd ρ B0) w w' := ⟨hgrow.size, fun b hb hB => hkeepb b hb (fun e => hB (Or.inr ⟨id, _, hid, e⟩))⟩
  have hB' : ∀ b, b < w.heap.size → Bd (up ρ id v') B0 b → Bd ρ B0 b := by
    rintro b hb (h | ⟨k, u, q1, q2⟩)
    · exact Or.inl h
    · unfold up at q1
      split at q1
      · cases q1
        rcases hblk b q2 with q3 | q3
        · exact Or.inr ⟨id, _, hid, q3⟩
        · omega
      · exact Or.inr ⟨k, u, q1, q2⟩
  have hW := Core.write (v' := v') (ob' := .row e te.n (n + m) (appEl n el el2)) (hp' := (id, .row e te.n (n + m) (appEl n el el2)) :: s.hp) hcr hid (w' := w') hkeepb hgrow.size hbel hblk
    (fun k ob hk hne => by rw [lk_cons, if_neg (fun e => hne e.symm)]; exact hk) (by rw [lk_cons, if_pos rfl])
    ⟨xs ++ news, hown', fun p q hp hq => by
      have hxl := hown.1
      by_cases hpn : p < n
      · obtain ⟨u, hu1, hu2⟩ := hel p q hpn hq
        have hidx := (List.getElem?_eq_some_iff.1 hu1).1
        refine ⟨u, by rw [List.getElem?_append_left hidx]; exact hu1, ?_⟩
        have : appEl n el el2 p q = el p q := by
          unfold appEl; rw [show Nat.ble (p + 1) n = true from Nat.ble_eq_true_of_le hpn]; rfl
        rw [this]
        exact LfR.mv hK hB' _ hu2
      · obtain ⟨u, hu1, hu2⟩ := hel2 (p - n) q (by omega) hq
        have hpm : p * te.n + q = n * te.n + ((p - n) * te.n + q) := by
          rw [← Nat.add_assoc, ← Nat.add_mul]
          congr 2
          omega
        refine ⟨u, by rw [hpm, List.getElem?_append_right (by omega), hxl, Nat.add_sub_cancel_left]; exact hu1, ?_⟩
        have : appEl n el el2 p q = el2 (p - n) q := by
          unfold appEl; rw [show Nat.ble (p + 1) n = false from by rw [← Bool.not_eq_true]; exact fun h => hpn (Nat.le_of_ble_eq_true h)]; rfl
        rw [this]
        exact LfR.mv hK hB' _ hu2⟩
  refine wpl_value (gst_ok hg hs) hrun (k B0 w0 _ w' ⟨up ρ id v', hW.1, by rw [hdst]; show (a.tmps.setIfInBounds d v').size = s.n; simpa using hn, by rw [hdst]; exact hdf, ?_⟩)
  rw [hdst]
  have hsl2 : Slots (up ρ id v') (Bd (up ρ id v') B0) w' (fzs id .dead (fun _ => .dead) s.sl) a := by
    intro u av hu
    obtain ⟨av', q1, rfl⟩ := lk_fzs _ _ _ hu
    obtain ⟨v, q2, q3⟩ := hs u av' q1
    refine ⟨v, q2, ?_⟩
    have keep : (∀ k, av'.on k = true → k ≠ id) → AR (up ρ id v') (Bd (up ρ id v') B0) w' av' v := fun hne => AR.mv hK hB' (fun k hk => by unfold up; rw [if_neg (hne k hk)]) q3
    cases av' with
    | own k =>
      show AR _ _ _ (bif Nat.beq k id then .dead else .own k) v
      cases e : Nat.beq k id with
      | true => trivial
      | false => exact keep (fun k' hk' => by have : k = k' := Nat.eq_of_beq_eq_true hk'; rintro rfl; rw [this, Nat.beq_refl] at e; cases e)
    | ptr k off =>
      show AR _ _ _ (bif Nat.beq k id then .dead else .ptr k off) v
      cases e : Nat.beq k id with
      | true => trivial
      | false => exact keep (fun k' hk' => by have : k = k' := Nat.eq_of_beq_eq_true hk'; rintro rfl; rw [this, Nat.beq_refl] at e; cases e)
    | eptr k sz i j =>
      show AR _ _ _ (bif Nat.beq k id then .dead else .eptr k sz i j) v
      cases e : Nat.beq k id with
      | true => trivial
      | false => exact keep (fun k' hk' => by have : k = k' := Nat.eq_of_beq_eq_true hk'; rintro rfl; rw [this, Nat.beq_refl] at e; cases e)
    | d x => exact keep (fun k hk => by cases hk)
    | tup x => exact keep (fun k hk => by cases hk)
    | dead => trivial
  refine slots_put hsl2 hn (Nat.le_of_ble_eq_true hd) ⟨by simp [up], ?_⟩
  obtain ⟨_, ⟨rfl, _⟩ | ⟨g, cap', cur, rfl, _⟩⟩ := hown'
  · exact ⟨none, 0, 0, rfl⟩
  · exact ⟨_, _, _, rfl⟩

set_option maxHeartbeats 4000000 in
/-- APPEND to nil: a new row of the frame's own. -/
theorem mA0 {P : Program} {T : TypeId → Option TI} (hT : TOk P T) {ops : Array Oper} {Q : Qs} {o : Oper} {l : List Oper} {s : AS} {c : Call} {x y : Operand} {t t2 e e2 : TypeId} {ti ti2 te : TI} {m d : Nat} {el2 : Nat → Nat → Lf}
    (hx : geto s x = some (.d (.one (.v (.slice none 0 0))))) (hc : callOf o.op = some c) (hcal : c.callee = .builtin .append) (hargs : c.args.toList = [x, y]) (hty : c.argTypes.toList = [t, t2]) (hti2 : T t2 = some ti2) (he2 : ti2.elem = some e2) (hti : T t = some ti) (he : ti.elem = some e) (hte : T e = some te) (hz : Nat.beq te.zero.length te.n = true) (h0 : Nat.ble 1 te.n = true) (hy : srcOf s y te.n = some (m, el2)) (hbd : m * te.bytes ≤ 140737488355328) (hmx : m ≤ 9223372036854775807)
    (hdst : o.dst = some d) (hfr : lk s.hp d = none) (k : AL P ops Q l (s.mk' d (.row e te.n m el2))) (hg : gst ops s o = some true := by rfl) (hd : dok (some d) s.n = true := by rfl) : AL P ops Q (o :: l) s := by
  rintro B0 w0 a w ⟨ρ, hcr, hn, hdf, hs⟩
  have hop : o.op = .call c := by
    unfold callOf at hc
    split at hc
    · rename_i h; cases hc; exact h
    · cases hc
  have hxe : a.eval x = .slice none 0 0 := (geto_ok hs hx).1
  obtain ⟨ao, cc, news, hye, hnl, hnil, hmc, hsrc, hel2⟩ := srcOf_ok hs hy
  obtain ⟨i, z, dd, h1, h2, h3, h4, h5, h6, h7, h8, h9, _⟩ := ti_parts (hT _ _ hti)
  have := h9 e he
  subst this
  obtain ⟨i', z', dd', k1, k2, k3, k4, k5, k6, k7, _⟩ := ti_parts (hT _ _ hte)
  have hzl : te.zero.length = te.n := Nat.eq_of_beq_eq_true hz
  have hsz : 0 < te.n := Nat.le_of_ble_eq_true h0
  have hzs : z'.cells.size = te.n := by rw [← hzl, ← k5]; simp
  have hone : ∀ u ∈ news, u.oneCell' = true := by
    intro u hu
    obtain ⟨q, hq, rfl⟩ := List.mem_iff_getElem.1 hu
    rw [hnl] at hq
    have hdiv : q / te.n < m := Nat.div_lt_of_lt_mul (by rw [Nat.mul_comm]; exact hq)
    obtain ⟨u, hu1, hu2⟩ := hel2 (q / te.n) (q % te.n) hdiv (Nat.mod_lt _ hsz)
    rw [Nat.mul_comm, Nat.div_add_mod] at hu1
    obtain ⟨_, hu3⟩ := List.getElem?_eq_some_iff.1 hu1
    rw [hu3]; exact hu2.one
  have hsize : w0.heap.size ≤ w.heap.size := hcr.bel.size
  have hown : w.ownsRow w0.heap.size e te.n (.slice none 0 0) 0 [] := ⟨by simp, Or.inl ⟨rfl, rfl⟩⟩
  obtain ⟨v', w', hr, hown', hgrow, hblk⟩ := run_append_am (P := P) (w := w) w0.heap.size t o.type e i' z' te.n te.bytes h3 k1 k2 k4 k7 hzs hsz (.slice none 0 0) 0 [] hown ao m cc news hnl hnil hmc hsrc hone (by simp [maxLen]; omega) (by rw [Nat.zero_add]; exact hbd) hsize
  obtain ⟨_, _, dd2, _, _, g3, _, _, _, _, _, g9, _⟩ := ti_parts (hT _ _ hti2)
  have := g9 e2 he2
  subst this
  have hr := (append_ty (ty := o.type) (args := #[.slice none 0 0, .slice ao m cc]) (w := w) h3 g3).trans hr
  have hrun : (execOp a.eval o).run P w = .ok (.value v') w' := by
    have ha : c.args = #[x, y] := by rw [← Array.toList_inj]; exact hargs
    have ht : c.argTypes = #[t, t2] := by rw [← Array.toList_inj]; exact hty
    unfold execOp
    rw [hop]
    simp [resolve, hcal, invoke, builtin, ha, ht, hye, hxe, hr]
  have hb : Below w.heap.size w w' := (Below.refl _ _).grown hgrow (Nat.le_refl _) (fun k hk => by cases hk)
  have hv : ∀ b, vblk v' = some b → w.heap.size ≤ b := fun b hb' => by
    rcases hblk b hb' with q | q
    · cases q
    · exact q
  have hρ : ρ d = none := by
    cases hρ : ρ d with
    | none => rfl
    | some u => obtain ⟨ob', h1, _⟩ := hcr.obj d u hρ; rw [hfr] at h1; cases h1
  rw [Nat.zero_add, List.nil_append] at hown'
  have ho' : OR (Bd (up ρ d v') B0) w0 w' (.row e te.n m el2) v' := ⟨news, hown', fun p q hp hq => by
    obtain ⟨u, hu1, hu2⟩ := hel2 p q hp hq
    exact ⟨u, hu1, LfR.mv (.of_below hb) (up_new hρ hv) _ hu2⟩⟩
  have hc' : Core (up ρ d v') B0 w0 w' ((d, .row e te.n m el2) :: s.hp) := hcr.new hρ hb hv (fun k ob' hk hne => by rw [lk_cons, if_neg (fun e => hne e.symm)]; exact hk) (by rw [lk_cons, if_pos rfl]) ho'
  have hs' : Slots (up ρ d v') (Bd (up ρ d v') B0) w' s.sl a := fun t av ht => let ⟨u, h1, h2⟩ := hs t av ht; ⟨u, h1, h2.new hρ hb hv⟩
  refine wpl_value (gst_ok hg hs) hrun (k B0 w0 _ w' ?_)
  rw [hdst]
  exact ⟨_, hc', (by show (a.tmps.setIfInBounds d v').size = s.n; simpa using hn), hdf, slots_put hs' hn (Nat.le_of_ble_eq_true hd) (AO.av_ok ho' (by simp [up]))⟩

end Go.Proofs.YtcnfblffeghboaaGreat

/-
  A SLICE OF INTEGERS THAT CAME IN, AS THE WALKS READ IT ('Rw').
-/
set_option linter.unusedVariables false
set_option linter.unusedSimpArgs false
namespace Go.Proofs.YtcnfblffeghboaaGreat
open Go.RowKit

/-- A row that came in (in the words of the rows' shells) is a row as the walks read it: kind k, each from 0 to B - 1. -/
theorem rw_in {k : IntKind} {B : Nat} {w : World} {a : Option Addr} {len cap : Nat} {zs : List Int}
    (h : (a = none ∧ len = 0 ∧ cap = 0 ∧ zs = []) ∨ ∃ x, a = some x ∧ len ≤ cap ∧ cap ≤ maxLen ∧ zs.length = cap ∧ (∀ i, i < zs.length → w.cell? (x.add i) = some (.int k (zs.getD i 0))) ∧ ∀ n ∈ zs, (Lit.int k n).wf = true)
    (hk : ∀ z : Int, (Lit.int k z).wf = true → 0 ≤ z ∧ z < (B : Int)) :
    len ≤ 9223372036854775807 ∧ ∃ xs, Rw k B w a len cap xs := by
  rcases h with ⟨rfl, rfl, rfl, rfl⟩ | ⟨x, rfl, hlc, hcm, hz, hcell, hwf⟩
  · exact ⟨by omega, [], Rw.nil k B w⟩
  · have hm : maxLen = 9223372036854775807 := by decide
    refine ⟨by omega, (zs.take len).map Int.toNat, by rw [List.length_map, List.length_take]; omega, hlc, (fun e => nomatch e), ?_, ?_⟩
    · intro n hn
      obtain ⟨z, hz, rfl⟩ := List.mem_map.1 hn
      have := hk z (hwf z (List.mem_of_mem_take hz))
      omega
    · by_cases h0 : len = 0
      · left; subst h0; rfl
      · right
        obtain ⟨b, off, sp⟩ := x
        have hc0 := hcell 0 (by omega)
        obtain rfl : sp = none := by
          cases sp with
          | none => rfl
          | some s =>
            exfalso
            simp only [Addr.add, if_true, World.cell?] at hc0
            split at hc0 <;> simp_all
        refine ⟨b, off, rfl, fun j hj => ?_⟩
        have hj2 : j < len := by simp [ints] at hj; omega
        have hcj := hcell j (by omega)
        have hzj : zs.getD j 0 = zs[j]'(by omega) := by rw [List.getD_eq_getElem?_getD, List.getElem?_eq_getElem (by omega)]; rfl
        have e1 : (⟨b, off, none⟩ : Addr).add j = ⟨b, off + j, none⟩ := by
          unfold Addr.add
          split
          · next h => subst h; rfl
          · rfl
        rw [e1, hzj] at hcj
        rw [hcj]
        have hw := hk _ (hwf _ (List.getElem_mem (l := zs) (n := j) (by omega)))
        simp only [ints, List.map_map, List.getElem_map, List.getElem_take, Function.comp]
        rw [Int.toNat_of_nonneg hw.1]

theorem wf_u32 (z : Int) (h : (Lit.int .u32 z).wf = true) : 0 ≤ z ∧ z < (B32 : Int) := by
  simp only [Lit.wf, Bool.and_eq_true, decide_eq_true_eq] at h
  have h1 : IntKind.u32.min = 0 := by decide
  have h2 : IntKind.u32.max = 4294967295 := by decide
  have h3 : (B32 : Int) = 4294967296 := by decide
  omega

theorem wf_int {z : Int} (h : (Lit.int .i64 z).wf = true) : -9223372036854775808 ≤ z ∧ z ≤ 9223372036854775807 := by
  simp only [Lit.wf, Bool.and_eq_true, decide_eq_true_eq] at h
  have h1 : IntKind.i64.min = -9223372036854775808 := by decide
  have h2 : IntKind.i64.max = 9223372036854775807 := by decide
  omega

end Go.Proofs.YtcnfblffeghboaaGreat

/-
  WHAT COMES IN: rows of limbs, rows of rows, as the walks read them.
-/
set_option linter.unusedVariables false
set_option linter.unusedSimpArgs false
namespace Go.Proofs.YtcnfblffeghboaaGreat
open Go.RowKit Go.ChangeShapes Go.WideShapes

section
variable {H : Type} {enc : TypeId × Value → H} {P : Program} {w : World}

/-- A row of limbs that came in. -/
theorem in_u32s {t e : TypeId} {fuel : Nat} {cs : List Value} {x : DataW H × List MemPlace} (ht : P.underlying t = some (.slice e)) (he : P.underlying e = some (.int .u32)) (hc : P.cellsOf e = 1)
    (h : DataW.trod enc P w 0 (fun _ => true) true fuel t cs = some x) :
    ∃ a len cap, cs = [.slice a len cap] ∧ len ≤ 9223372036854775807 ∧ ∃ xs, Rw .u32 B32 w a len cap xs := by
  rcases open_ints ht he hc h with ⟨rfl, _⟩ | ⟨a, l, c, zs, rfl, _, hl, hm, hz, _, hcell, hwz⟩
  · exact ⟨none, 0, 0, rfl, by omega, [], Rw.nil _ _ _⟩
  · exact ⟨some a, l, c, rfl, rw_in (.inr ⟨_, rfl, hl, hm, by simpa using hz, hcell, hwz⟩) wf_u32⟩

/-- A row of rows of limbs that came in: each element is a row of limbs. -/
def InRows (w : World) (ao : Option Addr) (n : Nat) : Prop :=
  ∀ j, j < n → ∃ b off a k d xs, ao = some ⟨b, off, none⟩ ∧ w.cell? ⟨b, off + j, none⟩ = some (.slice a k d) ∧ k ≤ 9223372036854775807 ∧ Rw .u32 B32 w a k d xs

theorem add_plain {b off j : Nat} : (⟨b, off, none⟩ : Addr).add j = ⟨b, off + j, none⟩ := by
  unfold Addr.add
  split
  · next h => subst h; rfl
  · rfl

/-- The address of a cell that can be read has no spot. -/
theorem plain_of_cell {a : Addr} {v : Value} (h : w.cell? (a.add 0) = some v) : ∃ b off, a = ⟨b, off, none⟩ := by
  obtain ⟨b, off, sp⟩ := a
  cases sp with
  | none => exact ⟨b, off, rfl⟩
  | some s =>
    exfalso
    simp only [Addr.add, if_true, World.cell?] at h
    split at h <;> simp_all

theorem in_rows {t e e' : TypeId} {fuel : Nat} {cs : List Value} {x : DataW H × List MemPlace} (ht : P.underlying t = some (.slice e)) (he : P.underlying e = some (.slice e')) (he' : P.underlying e' = some (.int .u32)) (hc : P.cellsOf e = 1) (hc' : P.cellsOf e' = 1)
    (h : DataW.trod enc P w 0 (fun _ => true) true fuel t cs = some x) :
    ∃ a len cap, cs = [.slice a len cap] ∧ len ≤ 9223372036854775807 ∧ len ≤ cap ∧ InRows w a len := by
  rcases Go.Deep.open_slice1 ht hc h with ⟨rfl, _⟩ | ⟨a, len, cap, m, n, V, D, Pl, rfl, _, hl, hm, hmm, _, hx⟩
  · exact ⟨none, 0, 0, rfl, by omega, Nat.le_refl _, fun j hj => absurd hj (by omega)⟩
  · have hmax : maxLen = 9223372036854775807 := by decide
    refine ⟨some a, len, cap, rfl, by omega, hl, fun j hj => ?_⟩
    have hm2 : m = cap := by simpa using hmm
    obtain ⟨b, off, rfl⟩ := plain_of_cell (hx 0 (by omega)).1
    obtain ⟨h1, h2⟩ := hx j (by omega)
    obtain ⟨a', k, d, he1, hk, xs, hr⟩ := in_u32s he he' hc' h2
    rw [add_plain] at h1
    exact ⟨b, off, a', k, d, xs, rfl, by rw [h1]; exact congrArg some (List.cons.inj he1).1, hk, hr⟩

end
end Go.Proofs.YtcnfblffeghboaaGreat

/-
  WHAT COMES IN, in the abstract machine's words; a law's answer as the rows ask for it. No condition; nothing of the program.
-/
set_option linter.unusedVariables false
set_option linter.unusedSimpArgs false
namespace Go.Proofs.YtcnfblffeghboaaGreat
open Go.RowKit Go.ChangeShapes Go.WideShapes

def nb : BS := fun _ => False
abbrev MX : Nat := 9223372036854775807
theorem am_law {P : Program} {f : FuncId} {args : List DV} (h : ACall P f args (.d (.one (.v (.bool true))))) {w : World} {vs : List Value} (hvs : DsR nb w args vs) : Calls P f vs.toArray w fun e w' => e = .returned (.bool true) ∧ Below w.heap.size w w' :=
  (h.go nb w vs (fun _ h => h.elim) hvs).mono fun e w' ⟨v, he, hb, hv⟩ => ⟨by have h1 : v = .bool true := (show LfR nb w' (.v (.bool true)) v from hv).1; rw [he, h1], hb⟩

section
variable {H : Type} {enc : TypeId × Value → H} {P : Program} {w : World}
theorem am_lim {t e : TypeId} {fuel : Nat} {cs : List Value} {x : DataW H × List MemPlace} (ht : P.underlying t = some (.slice e)) (he : P.underlying e = some (.int .u32)) (hc : P.cellsOf e = 1)
    (h : DataW.trod enc P w 0 (fun _ => true) true fuel t cs = some x) : ∃ v xs, cs = [v] ∧ LfR nb w (lr MX xs) v := by
  obtain ⟨a, len, cap, e1, hl, xs, hr⟩ := in_u32s ht he hc h
  exact ⟨_, xs, e1, lr_R hr hl (fun _ _ _ h => h.elim)⟩
theorem am_int {r : Reach} {b0 : Nat} {t e : TypeId} {f0 f1 : Field} {v : Value} {d : DataW H} {p : List MemPlace} (hs : P.underlying t = some (.struct #[f0, f1])) (hone : Deep.oneCellFields P #[f0, f1] = true) (hC : P.cellsOf t = 2)
    (h0 : P.underlying f0.type = some .bool) (h1 : P.underlying f1.type = some (.slice e)) (he : P.underlying e = some (.int .u32)) (hc : P.cellsOf e = 1)
    (hv : Value.okWide P w r b0 t v) (h : DataW.Trod enc P w 0 (fun _ => true) true t v d p) :
    ∃ s xs, DR nb w (.agg [.v (.bool s), lr MX xs]) v := by
  obtain ⟨v0, v1, y0, y1, m, rfl, _, _, k0, k1⟩ := Joins.open_agg2 hs hone hC hv h
  obtain ⟨v1', xs, e1, hr⟩ := am_lim h1 he hc k1
  obtain ⟨s, e0⟩ : ∃ s, v0 = .bool s := by
    obtain ⟨b', hb, _⟩ := DataW.trod_bool h0 k0
    exact ⟨b', (List.cons.inj hb).1⟩
  subst e0
  obtain rfl := (List.cons.inj e1).1
  exact ⟨s, xs, _, rfl, ⟨rfl, rfl⟩, hr, trivial⟩
theorem am_pol {t e u : TypeId} {f0 f1 : Field} {fuel : Nat} {cs : List Value} {x : DataW H × List MemPlace} (ht : P.underlying t = some (.slice e)) (hs : P.underlying e = some (.struct #[f0, f1])) (hC : P.cellsOf e = 2)
    (ho : f0.offset = 0 ∧ f1.offset = 1 ∧ P.cellsOf f0.type = 1 ∧ P.cellsOf f1.type = 1)
    (h0 : P.underlying f0.type = some .bool) (h1 : P.underlying f1.type = some (.slice u)) (hu : P.underlying u = some (.int .u32)) (hc : P.cellsOf u = 1)
    (h : DataW.trod enc P w 0 (fun _ => true) true fuel t cs = some x) : ∃ v n f, cs = [v] ∧ LfR nb w (arow MX n f) v := by
  obtain ⟨o0, o1, k0, k1⟩ := ho
  rcases Go.Deep.open_slice ht h with ⟨hcs, _⟩ | ⟨a, len, cap, m, n, D, Pl, hcs, _, hl, hm, hmm, _, hx⟩
  · exact ⟨_, 0, fun _ => (false, []), hcs, none, 0, rfl, Nat.le_refl _, fun _ => rfl, fun i hi => absurd hi (Nat.not_lt_zero _)⟩
  · have hmax : maxLen = 9223372036854775807 := by decide
    have hm2 : m = cap := by simpa using hmm
    have key : ∀ j, j < len → ∃ F : Bool × List Nat, ∃ b off v1, a = ⟨b, off, none⟩ ∧ w.cell? ⟨b, off + j * 2, none⟩ = some (.bool F.1) ∧ w.cell? ⟨b, off + j * 2 + 1, none⟩ = some v1 ∧ LfR nb w (lr MX F.2) v1 := by
      intro j hj
      have hfirst : ∃ v0, w.cell? (a.add 0) = some v0 := by
        obtain ⟨cs, h2, _⟩ := hx 0 (by omega)
        rw [hC] at h2
        obtain ⟨_, hlen, hcell⟩ := World.cells?_some h2
        have h3 := hcell 0 (by omega)
        rw [Nat.zero_mul, show (a.add 0).add 0 = a.add 0 by simp [Addr.add]] at h3
        exact ⟨_, h3.trans (List.getElem?_eq_getElem (by omega))⟩
      obtain ⟨v0, hv0⟩ := hfirst
      obtain ⟨b, off, rfl⟩ := plain_of_cell hv0
      obtain ⟨cs, h2, h3⟩ := hx j (by omega)
      rw [hC] at h2
      obtain ⟨_, hlen, hcell⟩ := World.cells?_some h2
      obtain ⟨y0, y1, q, _, _, t0, t1⟩ := trod_struct2 hs h3
      match cs, hlen with
      | [c0, c1], _ =>
        rw [o0, k0] at t0
        rw [o1, k1] at t1
        obtain ⟨s, hb, _⟩ := DataW.trod_bool h0 t0
        obtain ⟨v1, xs, e1, hr⟩ := am_lim h1 hu hc t1
        obtain rfl : c0 = .bool s := (List.cons.inj hb).1
        obtain rfl : c1 = v1 := (List.cons.inj e1).1
        have g0 := hcell 0 (by simp)
        have g1 := hcell 1 (by simp)
        rw [add_plain, add_plain] at g0 g1
        exact ⟨(s, xs), b, off, c1, rfl, g0, g1, hr⟩
    refine ⟨_, len, fun j => if h : j < len then (key j h).choose else (false, []), hcs, some a, cap, rfl, hl, (fun e => nomatch e), fun j hj => ?_⟩
    obtain ⟨b, off, v1, rfl, h2, h3, h4⟩ := (key j hj).choose_spec
    refine ⟨b, off, rfl, fun h => h.elim, World.block_lt_of_cell? w _ h2, fun q hq => ?_⟩
    match q, hq with
    | 0, _ =>
      refine ⟨_, h2, ?_⟩
      show LfR nb w (.v (.bool (if h : j < len then (key j h).choose else (false, [])).1)) _
      rw [dif_pos hj]; exact ⟨rfl, rfl⟩
    | 1, _ =>
      refine ⟨_, h3, ?_⟩
      show LfR nb w (lr MX (if h : j < len then (key j h).choose else (false, [])).2) _
      rw [dif_pos hj]; exact h4
theorem am_pols {t s e u : TypeId} {f0 f1 : Field} {fuel : Nat} {cs : List Value} {x : DataW H × List MemPlace} (hts : P.underlying t = some (.slice s)) (hcs1 : P.cellsOf s = 1) (ht : P.underlying s = some (.slice e)) (hs : P.underlying e = some (.struct #[f0, f1])) (hC : P.cellsOf e = 2)
    (ho : f0.offset = 0 ∧ f1.offset = 1 ∧ P.cellsOf f0.type = 1 ∧ P.cellsOf f1.type = 1)
    (h0 : P.underlying f0.type = some .bool) (h1 : P.underlying f1.type = some (.slice u)) (hu : P.underlying u = some (.int .u32)) (hc : P.cellsOf u = 1)
    (h : DataW.trod enc P w 0 (fun _ => true) true fuel t cs = some x) : ∃ v n ns fs, cs = [v] ∧ LfR nb w (prows MX n ns fs) v := by
  rcases Go.Deep.open_slice1 hts hcs1 h with ⟨rfl, _⟩ | ⟨a, len, cap, m, n, V, D, Pl, rfl, _, hl, hm, hmm, _, hx⟩
  · exact ⟨_, 0, fun _ => 0, fun _ _ => (false, []), rfl, none, 0, rfl, Nat.le_refl _, fun _ => rfl, fun i hi => absurd hi (Nat.not_lt_zero _)⟩
  · have hm2 : m = cap := by simpa using hmm
    have key : ∀ j, j < len → ∃ F : Nat × (Nat → Bool × List Nat), ∃ b off v1, a = ⟨b, off, none⟩ ∧ w.cell? ⟨b, off + j, none⟩ = some v1 ∧ LfR nb w (arow MX F.1 F.2) v1 := by
      intro j hj
      obtain ⟨b, off, rfl⟩ := plain_of_cell (hx 0 (by omega)).1
      obtain ⟨h1', h2⟩ := hx j (by omega)
      obtain ⟨v, n', f, e1, hr⟩ := am_pol ht hs hC ho h0 h1 hu hc h2
      rw [add_plain] at h1'
      obtain e2 := (List.cons.inj e1).1
      exact ⟨(n', f), b, off, v, rfl, by rw [h1', e2], hr⟩
    refine ⟨_, len, fun j => if h : j < len then (key j h).choose.1 else 0, fun j => if h : j < len then (key j h).choose.2 else fun _ => (false, []), rfl, some a, cap, rfl, hl, (fun e => nomatch e), fun j hj => ?_⟩
    obtain ⟨b, off, v1, rfl, h2, h4⟩ := (key j hj).choose_spec
    refine ⟨b, off, rfl, fun h => h.elim, World.block_lt_of_cell? w _ h2, fun q hq => ?_⟩
    obtain rfl : q = 0 := by omega
    refine ⟨_, by rw [Nat.mul_one, Nat.add_zero]; exact h2, ?_⟩
    show LfR nb w (arow MX (if h : j < len then (key j h).choose.1 else 0) (if h : j < len then (key j h).choose.2 else fun _ => (false, []))) _
    rw [dif_pos hj, dif_pos hj]; exact h4
theorem am_i64s {t e : TypeId} {fuel : Nat} {cs : List Value} {x : DataW H × List MemPlace} (ht : P.underlying t = some (.slice e)) (he : P.underlying e = some (.int .i64)) (hc : P.cellsOf e = 1)
    (h : DataW.trod enc P w 0 (fun _ => true) true fuel t cs = some x) : ∃ v n c, cs = [v] ∧ LfR nb w (irow n c) v ∧ ∀ i, i < n → -9223372036854775808 ≤ c i ∧ c i ≤ 9223372036854775807 := by
  rcases open_ints ht he hc h with ⟨rfl, _⟩ | ⟨a, l, c, zs, rfl, _, hl, hm, hz, _, hcell, hwz⟩
  · exact ⟨_, 0, fun _ => 0, rfl, ⟨none, 0, rfl, Nat.le_refl _, fun _ => rfl, fun i hi => absurd hi (Nat.not_lt_zero _)⟩, fun i hi => absurd hi (Nat.not_lt_zero _)⟩
  · have hz' : zs.length = c := by simpa using hz
    refine ⟨_, l, fun i => zs.getD i 0, rfl, ⟨some a, c, rfl, hl, (fun e => nomatch e), fun i hi => ?_⟩, fun i hi => ?_⟩
    · have h0 := hcell 0 (by omega)
      obtain ⟨b, off, rfl⟩ := plain_of_cell h0
      have h1 := hcell i (by omega)
      rw [add_plain] at h1
      refine ⟨b, off, rfl, fun h => h.elim, World.block_lt_of_cell? w _ h1, fun q hq => ?_⟩
      obtain rfl : q = 0 := by omega
      exact ⟨_, by rw [Nat.mul_one, Nat.add_zero]; exact h1, rfl, rfl⟩
    · have hi' : i < zs.length := by omega
      show _ ≤ zs.getD i 0 ∧ zs.getD i 0 ≤ _
      rw [List.getD_eq_getElem?_getD, List.getElem?_eq_getElem hi']
      exact wf_int (hwz _ (List.getElem_mem hi'))
theorem slice_cells {a : Option Addr} {n c : Nat} : (Value.slice a n c).cells.toList = [.slice a n c] := by simp [Value.cells]
theorem am_polT {r : Reach} {b0 : Nat} {d : DataW H} {p : List MemPlace} {v : Value} {t e u : TypeId} {f0 f1 : Field} (ht : P.underlying t = some (.slice e)) (hs : P.underlying e = some (.struct #[f0, f1])) (hC : P.cellsOf e = 2)
    (ho : f0.offset = 0 ∧ f1.offset = 1 ∧ P.cellsOf f0.type = 1 ∧ P.cellsOf f1.type = 1)
    (h0 : P.underlying f0.type = some .bool) (h1 : P.underlying f1.type = some (.slice u)) (hu : P.underlying u = some (.int .u32)) (hc : P.cellsOf u = 1)
    (hv : Value.okWide P w r b0 t v) (h : DataW.Trod enc P w 0 (fun _ => true) true t v d p) : ∃ n f, LfR nb w (arow MX n f) v := by
  obtain ⟨a, len, cap, rfl⟩ := okWide_slice ht hv
  obtain ⟨fuel, hf⟩ := h
  rw [slice_cells] at hf
  obtain ⟨v', n, f, e1, h2⟩ := am_pol ht hs hC ho h0 h1 hu hc hf
  obtain rfl := (List.cons.inj e1).1
  exact ⟨n, f, h2⟩
theorem am_polsT {r : Reach} {b0 : Nat} {d : DataW H} {p : List MemPlace} {v : Value} {t s e u : TypeId} {f0 f1 : Field} (hts : P.underlying t = some (.slice s)) (hcs1 : P.cellsOf s = 1) (ht : P.underlying s = some (.slice e)) (hs : P.underlying e = some (.struct #[f0, f1])) (hC : P.cellsOf e = 2)
    (ho : f0.offset = 0 ∧ f1.offset = 1 ∧ P.cellsOf f0.type = 1 ∧ P.cellsOf f1.type = 1)
    (h0 : P.underlying f0.type = some .bool) (h1 : P.underlying f1.type = some (.slice u)) (hu : P.underlying u = some (.int .u32)) (hc : P.cellsOf u = 1)
    (hv : Value.okWide P w r b0 t v) (h : DataW.Trod enc P w 0 (fun _ => true) true t v d p) : ∃ n ns fs, LfR nb w (prows MX n ns fs) v := by
  obtain ⟨a, len, cap, rfl⟩ := okWide_slice hts hv
  obtain ⟨fuel, hf⟩ := h
  rw [slice_cells] at hf
  obtain ⟨v', n, ns, fs, e1, h2⟩ := am_pols hts hcs1 ht hs hC ho h0 h1 hu hc hf
  obtain rfl := (List.cons.inj e1).1
  exact ⟨n, ns, fs, h2⟩
theorem am_i64sT {r : Reach} {b0 : Nat} {d : DataW H} {p : List MemPlace} {v : Value} {t e : TypeId} (ht : P.underlying t = some (.slice e)) (he : P.underlying e = some (.int .i64)) (hc : P.cellsOf e = 1)
    (hv : Value.okWide P w r b0 t v) (h : DataW.Trod enc P w 0 (fun _ => true) true t v d p) : ∃ n c, LfR nb w (irow n c) v ∧ ∀ i, i < n → -9223372036854775808 ≤ c i ∧ c i ≤ 9223372036854775807 := by
  obtain ⟨a, len, cap, rfl⟩ := okWide_slice ht hv
  obtain ⟨fuel, hf⟩ := h
  rw [slice_cells] at hf
  obtain ⟨v', n, c, e1, h2⟩ := am_i64s ht he hc hf
  obtain rfl := (List.cons.inj e1).1
  exact ⟨n, c, h2⟩
end
end Go.Proofs.YtcnfblffeghboaaGreat

/-
  WHAT COMES IN (2): rationals, rows of rationals. No condition; nothing of the program.
-/
set_option linter.unusedVariables false
set_option linter.unusedSimpArgs false
namespace Go.Proofs.YtcnfblffeghboaaGreat
open Go.RowKit Go.ChangeShapes Go.WideShapes

section
variable {H : Type} {enc : TypeId × Value → H} {P : Program} {w : World}
theorem am_intc {t e : TypeId} {f0 f1 : Field} {fuel : Nat} {cs : List Value} {x : DataW H × List MemPlace} (hs : P.underlying t = some (.struct #[f0, f1])) (ho : f0.offset = 0 ∧ f1.offset = 1 ∧ P.cellsOf f0.type = 1 ∧ P.cellsOf f1.type = 1)
    (h0 : P.underlying f0.type = some .bool) (h1 : P.underlying f1.type = some (.slice e)) (he : P.underlying e = some (.int .u32)) (hc : P.cellsOf e = 1) (hl : cs.length = 2)
    (h : DataW.trod enc P w 0 (fun _ => true) true fuel t cs = some x) : ∃ s xs v1, cs = [.bool s, v1] ∧ LfR nb w (lr MX xs) v1 := by
  obtain ⟨y0, y1, q, _, _, t0, t1⟩ := trod_struct2 hs h
  obtain ⟨o0, o1, k0, k1⟩ := ho
  match cs, hl with
  | [c0, c1], _ =>
    rw [o0, k0] at t0
    rw [o1, k1] at t1
    obtain ⟨s, hb, _⟩ := DataW.trod_bool h0 t0
    obtain ⟨v1, xs, e1, hr⟩ := am_lim h1 he hc t1
    obtain rfl : c0 = .bool s := (List.cons.inj hb).1
    obtain rfl : c1 = v1 := (List.cons.inj e1).1
    exact ⟨s, xs, _, rfl, hr⟩
/-- A rational in any form. -/
def tan (K : Nat) (s : Bool) (xs : List Nat) (t : Bool) (ys : List Nat) : List Lf := [.v (.bool s), lr K xs] ++ [.v (.bool t), lr K ys]
theorem am_ratc {t u e : TypeId} {g0 g1 f0 f1 : Field} {fuel : Nat} {cs : List Value} {x : DataW H × List MemPlace} (hr : P.underlying t = some (.struct #[g0, g1])) (hg : g0.offset = 0 ∧ g1.offset = 2 ∧ P.cellsOf g0.type = 2 ∧ P.cellsOf g1.type = 2)
    (u0 : g0.type = u) (u1 : g1.type = u) (hs : P.underlying u = some (.struct #[f0, f1])) (ho : f0.offset = 0 ∧ f1.offset = 1 ∧ P.cellsOf f0.type = 1 ∧ P.cellsOf f1.type = 1)
    (h0 : P.underlying f0.type = some .bool) (h1 : P.underlying f1.type = some (.slice e)) (he : P.underlying e = some (.int .u32)) (hc : P.cellsOf e = 1) (hl : cs.length = 4)
    (h : DataW.trod enc P w 0 (fun _ => true) true fuel t cs = some x) : ∃ s xs s' ys, LsR nb w (tan MX s xs s' ys) cs := by
  obtain ⟨y0, y1, q, _, _, t0, t1⟩ := trod_struct2 hr h
  obtain ⟨o0, o1, k0, k1⟩ := hg
  match cs, hl with
  | [c0, c1, c2, c3], _ =>
    rw [o0, k0, u0] at t0
    rw [o1, k1, u1] at t1
    obtain ⟨s, xs, v1, e1, r1⟩ := am_intc hs ho h0 h1 he hc rfl t0
    obtain ⟨s', ys, v2, e2, r2⟩ := am_intc hs ho h0 h1 he hc rfl t1
    simp at e1 e2
    obtain ⟨rfl, rfl⟩ := e1
    obtain ⟨rfl, rfl⟩ := e2
    exact ⟨s, xs, s', ys, ⟨rfl, rfl⟩, r1, ⟨rfl, rfl⟩, r2, trivial⟩
theorem am_rat {r : Reach} {b0 : Nat} {t u e : TypeId} {g0 g1 f0 f1 : Field} {v : Value} {d : DataW H} {p : List MemPlace} (hr : P.underlying t = some (.struct #[g0, g1])) (hC : P.cellsOf t = 4) (hg : g0.offset = 0 ∧ g1.offset = 2 ∧ P.cellsOf g0.type = 2 ∧ P.cellsOf g1.type = 2)
    (u0 : g0.type = u) (u1 : g1.type = u) (hs : P.underlying u = some (.struct #[f0, f1])) (ho : f0.offset = 0 ∧ f1.offset = 1 ∧ P.cellsOf f0.type = 1 ∧ P.cellsOf f1.type = 1)
    (h0 : P.underlying f0.type = some .bool) (h1 : P.underlying f1.type = some (.slice e)) (he : P.underlying e = some (.int .u32)) (hc : P.cellsOf e = 1)
    (hv : Value.okWide P w r b0 t v) (h : DataW.Trod enc P w 0 (fun _ => true) true t v d p) : ∃ s xs s' ys, DR nb w (.agg (tan MX s xs s' ys)) v := by
  obtain ⟨cs, rfl, hsz⟩ := okWide_struct hr hv
  obtain ⟨fuel, hf⟩ := h
  have hcs : (Value.agg cs).cells.toList = cs.toList := by simp [Value.cells]
  rw [hcs] at hf
  obtain ⟨s, xs, s', ys, hx⟩ := am_ratc hr hg u0 u1 hs ho h0 h1 he hc (by simpa using hsz.trans hC) hf
  exact ⟨s, xs, s', ys, cs.toList, by simp, hx⟩
/-- A row of rationals in any form. -/
abbrev tael (K : Nat) (f : Nat → (Bool × List Nat) × (Bool × List Nat)) : Nat → Nat → Lf := fun i j => ((tan K (f i).1.1 (f i).1.2 (f i).2.1 (f i).2.2)[j]?).getD (.v undef)
def trow (K n : Nat) (f : Nat → (Bool × List Nat) × (Bool × List Nat)) : Lf := .row 4 n (tael K f)
theorem am_rats {tt t u e : TypeId} {g0 g1 f0 f1 : Field} {fuel : Nat} {cs : List Value} {x : DataW H × List MemPlace} (ht : P.underlying tt = some (.slice t)) (hr : P.underlying t = some (.struct #[g0, g1])) (hC : P.cellsOf t = 4) (hg : g0.offset = 0 ∧ g1.offset = 2 ∧ P.cellsOf g0.type = 2 ∧ P.cellsOf g1.type = 2)
    (u0 : g0.type = u) (u1 : g1.type = u) (hs : P.underlying u = some (.struct #[f0, f1])) (ho : f0.offset = 0 ∧ f1.offset = 1 ∧ P.cellsOf f0.type = 1 ∧ P.cellsOf f1.type = 1)
    (h0 : P.underlying f0.type = some .bool) (h1 : P.underlying f1.type = some (.slice e)) (he : P.underlying e = some (.int .u32)) (hc : P.cellsOf e = 1)
    (h : DataW.trod enc P w 0 (fun _ => true) true fuel tt cs = some x) : ∃ v n f, cs = [v] ∧ LfR nb w (trow MX n f) v := by
  rcases Go.Deep.open_slice ht h with ⟨hcs, _⟩ | ⟨a, len, cap, m, n, D, Pl, hcs, _, hl, hm, hmm, _, hx⟩
  · exact ⟨_, 0, fun _ => ((false, []), (false, [])), hcs, none, 0, rfl, Nat.le_refl _, fun _ => rfl, fun i hi => absurd hi (Nat.not_lt_zero _)⟩
  · have hm2 : m = cap := by simpa using hmm
    have key : ∀ j, j < len → ∃ F : (Bool × List Nat) × (Bool × List Nat), ∃ b off, a = ⟨b, off, none⟩ ∧ b < w.heap.size ∧ ∀ q, q < 4 → ∃ c, w.cell? ⟨b, off + j * 4 + q, none⟩ = some c ∧ LfR nb w (((tan MX F.1.1 F.1.2 F.2.1 F.2.2)[q]?).getD (.v undef)) c := by
      intro j hj
      have hfirst : ∃ v0, w.cell? (a.add 0) = some v0 := by
        obtain ⟨cs, h2, _⟩ := hx 0 (by omega)
        rw [hC] at h2
        obtain ⟨_, hlen, hcell⟩ := World.cells?_some h2
        have h3 := hcell 0 (by omega)
        rw [Nat.zero_mul, show (a.add 0).add 0 = a.add 0 by simp [Addr.add]] at h3
        exact ⟨_, h3.trans (List.getElem?_eq_getElem (by omega))⟩
      obtain ⟨v0, hv0⟩ := hfirst
      obtain ⟨b, off, rfl⟩ := plain_of_cell hv0
      obtain ⟨cs, h2, h3⟩ := hx j (by omega)
      rw [hC] at h2
      obtain ⟨_, hlen, hcell⟩ := World.cells?_some h2
      obtain ⟨s, xs, s', ys, hls⟩ := am_ratc hr hg u0 u1 hs ho h0 h1 he hc hlen h3
      have hlt : b < w.heap.size := by
        have h4 := hcell 0 (by omega)
        rw [add_plain, add_plain] at h4
        exact World.block_lt_of_cell? w _ (h4.trans (List.getElem?_eq_getElem (by omega)))
      refine ⟨((s, xs), (s', ys)), b, off, rfl, hlt, fun q hq => ?_⟩
      have h4 := hcell q (by omega)
      rw [add_plain, add_plain] at h4
      obtain ⟨c, hc1, hc2⟩ := hls.get (j := q) (l := ((tan MX s xs s' ys)[q]?).getD (.v undef)) (by
        have hlen4 : (tan MX s xs s' ys).length = 4 := rfl
        rw [List.getElem?_eq_getElem (by omega)]; rfl)
      exact ⟨c, h4.trans hc1, hc2⟩
    refine ⟨_, len, fun j => if h : j < len then (key j h).choose else ((false, []), (false, [])), hcs, some a, cap, rfl, hl, (fun e => nomatch e), fun j hj => ?_⟩
    obtain ⟨b, off, rfl, h2, h3⟩ := (key j hj).choose_spec
    refine ⟨b, off, rfl, fun h => h.elim, h2, fun q hq => ?_⟩
    obtain ⟨c, h4, h5⟩ := h3 q hq
    refine ⟨c, h4, ?_⟩
    simp only [tael, dif_pos hj]
    exact h5
theorem am_ratsT {r : Reach} {b0 : Nat} {d : DataW H} {p : List MemPlace} {v : Value} {tt t u e : TypeId} {g0 g1 f0 f1 : Field} (ht : P.underlying tt = some (.slice t)) (hr : P.underlying t = some (.struct #[g0, g1])) (hC : P.cellsOf t = 4) (hg : g0.offset = 0 ∧ g1.offset = 2 ∧ P.cellsOf g0.type = 2 ∧ P.cellsOf g1.type = 2)
    (u0 : g0.type = u) (u1 : g1.type = u) (hs : P.underlying u = some (.struct #[f0, f1])) (ho : f0.offset = 0 ∧ f1.offset = 1 ∧ P.cellsOf f0.type = 1 ∧ P.cellsOf f1.type = 1)
    (h0 : P.underlying f0.type = some .bool) (h1 : P.underlying f1.type = some (.slice e)) (he : P.underlying e = some (.int .u32)) (hc : P.cellsOf e = 1)
    (hv : Value.okWide P w r b0 tt v) (h : DataW.Trod enc P w 0 (fun _ => true) true tt v d p) : ∃ n f, LfR nb w (trow MX n f) v := by
  obtain ⟨a, len, cap, rfl⟩ := okWide_slice ht hv
  obtain ⟨fuel, hf⟩ := h
  rw [slice_cells] at hf
  obtain ⟨v', n, f, e1, h2⟩ := am_rats ht hr hC hg u0 u1 hs ho h0 h1 he hc hf
  obtain rfl := (List.cons.inj e1).1
  exact ⟨n, f, h2⟩
end
end Go.Proofs.YtcnfblffeghboaaGreat

/-
  RATIONALS, cut, by the machine.
-/
set_option linter.unusedVariables false
set_option linter.unusedSimpArgs false
namespace Go.Proofs.YtcnfblffeghboaaGreat
open Go.RowKit

set_option maxRecDepth 100000 in
set_option maxHeartbeats 4000000 in
theorem aKRat {K k : Nat} {s t : Bool} {xs ys : List Nat} (hk : k ≤ 1000000 := by decide) (hK : K ≤ 9223372036854775807 := by decide) : ACall Tryz.prog 6 [.agg ([.v (.bool s), lr K xs] ++ [.v (.bool t), lr K ys]), .one (.v (.int .i64 (k : Int)))] (.d (.agg ([.v (.bool s), lr k (xs.take k)] ++ [.v (.bool t), lr k (ys.take k)]))) := by
  refine acallN hTT 14 [.cell 4 30] Tryz.func6 rfl rfl rfl rfl rfl ?_
  refine cSeq ?_
  refine cReg ?_
  refine mN hTT (.box 30 ([.v (.bool s), lr K xs] ++ [.v (.bool t), lr K ys])) rfl rfl rfl ?_
  refine mN hTT (.box 30 ([.v (.bool false), .v (.slice none 0 0), .v (.bool false), .v (.slice none 0 0)])) rfl rfl rfl ?_
  refine mNil ?_
  refine tN ?_
  refine cSeq ?_
  refine cDrawK hTT 9 (by kernel_rfl) (by kernel_rfl) (by kernel_rfl) ?_
  refine .cons (OpS.V (.ptr 2 0) rfl) ?_
  refine .cons (OpS.V (.d (.agg ([.v (.bool s), lr K xs]))) rfl) ?_
  refine .cons (OpS.V _ rfl) ?_
  refine .cons (OpS.C0 (aKInt (K := K) (k := k) (s := s) (xs := xs) (by omega) (by omega)) rfl rfl rfl) ?_
  refine .cons (OpS.V (.ptr 2 2) rfl) ?_
  refine .cons (OpS.V (.d (.agg ([.v (.bool t), lr K ys]))) rfl) ?_
  refine .cons (OpS.V _ rfl) ?_
  refine .cons (OpS.C0 (aKInt (K := K) (k := k) (s := t) (xs := ys) (by omega) (by omega)) rfl rfl rfl) ?_
  refine .cons (OpS.V (.d (.agg ([.v (.bool s), lr k (xs.take k)] ++ [.v (.bool t), lr k (ys.take k)]))) rfl) ?_
  refine .nil ?_
  refine mS hTT 4 (.box 30 ([.v (.bool s), lr k (xs.take k)] ++ [.v (.bool t), lr k (ys.take k)])) rfl ?_
  refine mNil ?_
  refine tN ?_
  refine cRet ?_
  exact rQ rfl (AV.le.rfl)

end Go.Proofs.YtcnfblffeghboaaGreat

/-
  RATIONALS of the program, by the machine (3).
-/
set_option linter.unusedVariables false
set_option linter.unusedSimpArgs false
namespace Go.Proofs.YtcnfblffeghboaaGreat
open Go.RowKit

set_option maxRecDepth 100000 in
set_option maxHeartbeats 4000000 in
theorem aTMake0 {a b : List Lf} {K L : Nat} {x y : Int} (ha : IsZ a K x) (hb : IsZ b L y) (hy : y = 0) (hL : L ≤ 100000000 := by decide) : ACall Tryz.prog 83 [.agg a, .agg b] (.tup [.agg [.v (.bool false), .v (.slice none 0 0), .v (.bool false), .v (.slice none 0 0)], .one (.v (.int .i64 2))]) := by
  obtain ⟨sa, xa, ha, ea⟩ := ha
  obtain ⟨sb, xb, hb, eb⟩ := hb
  refine ACall.le (dl (DV.z ha) (dl (DV.z hb) dl0)) AV.le.rfl ?_
  refine acallN hTT 15 [.cell 4 30, .tmp 5] Tryz.func83 rfl rfl rfl rfl rfl ?_
  refine cSeq ?_
  refine cReg ?_
  refine mN hTT (.box 26 ([.v (.bool sa), lr K xa])) rfl rfl rfl ?_
  refine mN hTT (.box 26 ([.v (.bool sb), lr L xb])) rfl rfl rfl ?_
  refine mN hTT (.box 30 ([.v (.bool false), .v (.slice none 0 0), .v (.bool false), .v (.slice none 0 0)])) rfl rfl rfl ?_
  refine mV hTT _ rfl ?_
  refine mNil ?_
  refine tN ?_
  refine cSeq ?_
  refine cSeq ?_
  refine cReg ?_
  refine mV hTT (.d (.agg ([.v (.bool sb), lr L xb]))) rfl ?_
  refine mC0 (aNorm ⟨sb, xb, fun _ _ _ h => h, eb⟩ (by omega)) rfl rfl rfl ?_
  refine mS hTT 3 (.box 26 (zn L y)) rfl ?_
  refine mNil ?_
  refine tN ?_
  refine cSeq ?_
  refine cReg ?_
  refine mV hTT (.d (.agg (zn L y))) rfl ?_
  refine mC0 (aZero (isn L y)) rfl rfl rfl ?_
  refine mNil ?_
  refine tN ?_
  refine cView 9 (.d (.one (.v (.bool true)))) rfl (le_bool (decide_eq_true hy)) ?_
  refine cT rfl ?_
  refine cSeq ?_
  refine cReg ?_
  refine mV hTT (.d (.agg ([.v (.bool false), .v (.slice none 0 0), .v (.bool false), .v (.slice none 0 0)]))) rfl ?_
  refine mS hTT 4 (.box 30 ([.v (.bool false), .v (.slice none 0 0), .v (.bool false), .v (.slice none 0 0)])) rfl ?_
  refine mV hTT _ rfl ?_
  refine mNil ?_
  refine tN ?_
  refine cRet ?_
  refine tR ?_
  exact rQ rfl (AV.le.rfl)

set_option maxRecDepth 100000 in
set_option maxHeartbeats 4000000 in
theorem aTQuo {a b : List Lf} {K L M : Nat} {n d m e : Int} (ha : IsT a K n d) (hb : IsT b L m e) (hq : (mkR m e) ≠ 0) (hM : (max K 2 + 1) + (max L 2 + 1) + 2 ≤ M := by decide) (hMM : M ≤ 100000000 := by decide) : ACall Tryz.prog 43 [.agg a, .agg b] (.tup [.agg (tn M ((mkR n d) / (mkR m e))), .one (.v (.int .i64 0))]) := by
  obtain ⟨s0, xs0, t0, ys0, ha, e0, k0⟩ := ha
  obtain ⟨s1, xs1, t1, ys1, hb, e1, k1⟩ := hb
  refine ACall.le (dl (DV.g ha) (dl (DV.g hb) dl0)) AV.le.rfl ?_
  refine acallN hTT 25 [.cell 4 30, .tmp 5] Tryz.func43 rfl rfl rfl rfl rfl ?_
  refine cSeq ?_
  refine cReg ?_
  refine mN hTT (.box 30 ([.v (.bool s0), lr K xs0] ++ [.v (.bool t0), lr K ys0])) rfl rfl rfl ?_
  refine mN hTT (.box 30 ([.v (.bool s1), lr L xs1] ++ [.v (.bool t1), lr L ys1])) rfl rfl rfl ?_
  refine mN hTT (.box 30 ([.v (.bool false), .v (.slice none 0 0), .v (.bool false), .v (.slice none 0 0)])) rfl rfl rfl ?_
  refine mV hTT _ rfl ?_
  refine mNil ?_
  refine tN ?_
  refine cSeq ?_
  refine cDrawK hTT 4 (by kernel_rfl) (by kernel_rfl) (by kernel_rfl) ?_
  refine .cons (OpS.V (.d (.agg ([.v (.bool s0), lr K xs0] ++ [.v (.bool t0), lr K ys0]))) rfl) ?_
  refine .cons (OpS.C0 (aTNorm (⟨s0, xs0, t0, ys0, fun _ _ _ h => h, e0, k0⟩ : IsT ([.v (.bool s0), lr K xs0] ++ [.v (.bool t0), lr K ys0]) K n d) (M := (max K 2 + 1)) (by omega) (by omega)) rfl rfl rfl) ?_
  refine .cons (OpS.V (.d (.agg ([.v (.bool s1), lr L xs1] ++ [.v (.bool t1), lr L ys1]))) rfl) ?_
  refine .cons (OpS.C0 (aTNorm (⟨s1, xs1, t1, ys1, fun _ _ _ h => h, e1, k1⟩ : IsT ([.v (.bool s1), lr L xs1] ++ [.v (.bool t1), lr L ys1]) L m e) (M := (max L 2 + 1)) (by omega) (by omega)) rfl rfl rfl) ?_
  refine .nil ?_
  refine mS hTT 2 (.box 30 (tn (max K 2 + 1) (mkR n d))) rfl ?_
  refine mS hTT 3 (.box 30 (tn (max L 2 + 1) (mkR m e))) rfl ?_
  refine mNil ?_
  refine tN ?_
  refine cSeq ?_
  refine cSeq ?_
  refine cReg ?_
  refine mV hTT (.ptr 3 0) rfl ?_
  refine mV hTT (.d (.agg (zn (max L 2 + 1) (Rat.num (mkR m e))))) rfl ?_
  refine mC0 (aZero (isn (max L 2 + 1) (Rat.num (mkR m e)))) rfl rfl rfl ?_
  refine mNil ?_
  refine tN ?_
  refine cView 12 (.d (.one (.v (.bool false)))) rfl (le_bool (decide_eq_false (num_ne hq))) ?_
  refine cF rfl ?_
  refine cSkip ?_
  refine tN ?_
  refine cSeq ?_
  refine cDrawK hTT 11 (by kernel_rfl) (by kernel_rfl) (by kernel_rfl) ?_
  refine .cons (OpS.V (.ptr 2 0) rfl) ?_
  refine .cons (OpS.V (.d (.agg (zn (max K 2 + 1) (Rat.num (mkR n d))))) rfl) ?_
  refine .cons (OpS.V (.ptr 3 2) rfl) ?_
  refine .cons (OpS.V (.d (.agg (zn (max L 2 + 1) (Rat.den (mkR m e) : Int)))) rfl) ?_
  refine .cons (OpS.C0 (aMul (isz (max K 2 + 1) (Rat.num (mkR n d))) (isz (max L 2 + 1) (Rat.den (mkR m e) : Int)) (M := ((max K 2 + 1) + (max L 2 + 1))) (by omega) (by omega) (by omega)) rfl rfl rfl) ?_
  refine .cons (OpS.V (.ptr 2 2) rfl) ?_
  refine .cons (OpS.V (.d (.agg (zn (max K 2 + 1) (Rat.den (mkR n d) : Int)))) rfl) ?_
  refine .cons (OpS.V (.ptr 3 0) rfl) ?_
  refine .cons (OpS.V (.d (.agg (zn (max L 2 + 1) (Rat.num (mkR m e))))) rfl) ?_
  refine .cons (OpS.C0 (aMul (isz (max K 2 + 1) (Rat.den (mkR n d) : Int)) (isz (max L 2 + 1) (Rat.num (mkR m e))) (M := ((max K 2 + 1) + (max L 2 + 1))) (by omega) (by omega) (by omega)) rfl rfl rfl) ?_
  refine .cons (OpS.C0 (aTLow (isz ((max K 2 + 1) + (max L 2 + 1)) ((Rat.num (mkR n d)) * (Rat.den (mkR m e) : Int))) (isz ((max K 2 + 1) + (max L 2 + 1)) ((Rat.den (mkR n d) : Int) * (Rat.num (mkR m e)))) (Int.mul_ne_zero (den_ne (mkR n d)) (num_ne hq)) (M := (max (max ((max K 2 + 1) + (max L 2 + 1)) ((max K 2 + 1) + (max L 2 + 1))) 1 + 1)) (by omega) (by omega)) rfl rfl rfl) ?_
  refine .nil ?_
  refine mS hTT 4 (.box 30 (tn (max (max ((max K 2 + 1) + (max L 2 + 1)) ((max K 2 + 1) + (max L 2 + 1))) 1 + 1) (Rat.divInt ((Rat.num (mkR n d)) * (Rat.den (mkR m e) : Int)) ((Rat.den (mkR n d) : Int) * (Rat.num (mkR m e)))))) rfl ?_
  refine mV hTT _ rfl ?_
  refine mNil ?_
  refine tN ?_
  refine cRet ?_
  exact rQ rfl (le_tup (dl (dle (le_tn (by omega) (quo_div hq))) (dl DV.same dl0)))

set_option maxRecDepth 100000 in
set_option maxHeartbeats 4000000 in
theorem aTQuo0 {a b : List Lf} {K L : Nat} {n d m e : Int} (ha : IsT a K n d) (hb : IsT b L m e) (hq : (mkR m e) = 0) (hK : K ≤ 10000000 := by decide) (hL : L ≤ 10000000 := by decide) : ACall Tryz.prog 43 [.agg a, .agg b] (.tup [.agg [.v (.bool false), .v (.slice none 0 0), .v (.bool false), .v (.slice none 0 0)], .one (.v (.int .i64 2))]) := by
  obtain ⟨s0, xs0, t0, ys0, ha, e0, k0⟩ := ha
  obtain ⟨s1, xs1, t1, ys1, hb, e1, k1⟩ := hb
  refine ACall.le (dl (DV.g ha) (dl (DV.g hb) dl0)) AV.le.rfl ?_
  refine acallN hTT 25 [.cell 4 30, .tmp 5] Tryz.func43 rfl rfl rfl rfl rfl ?_
  refine cSeq ?_
  refine cReg ?_
  refine mN hTT (.box 30 ([.v (.bool s0), lr K xs0] ++ [.v (.bool t0), lr K ys0])) rfl rfl rfl ?_
  refine mN hTT (.box 30 ([.v (.bool s1), lr L xs1] ++ [.v (.bool t1), lr L ys1])) rfl rfl rfl ?_
  refine mN hTT (.box 30 ([.v (.bool false), .v (.slice none 0 0), .v (.bool false), .v (.slice none 0 0)])) rfl rfl rfl ?_
  refine mV hTT _ rfl ?_
  refine mNil ?_
  refine tN ?_
  refine cSeq ?_
  refine cDrawK hTT 4 (by kernel_rfl) (by kernel_rfl) (by kernel_rfl) ?_
  refine .cons (OpS.V (.d (.agg ([.v (.bool s0), lr K xs0] ++ [.v (.bool t0), lr K ys0]))) rfl) ?_
  refine .cons (OpS.C0 (aTNorm (⟨s0, xs0, t0, ys0, fun _ _ _ h => h, e0, k0⟩ : IsT ([.v (.bool s0), lr K xs0] ++ [.v (.bool t0), lr K ys0]) K n d) (M := (max K 2 + 1)) (by omega) (by omega)) rfl rfl rfl) ?_
  refine .cons (OpS.V (.d (.agg ([.v (.bool s1), lr L xs1] ++ [.v (.bool t1), lr L ys1]))) rfl) ?_
  refine .cons (OpS.C0 (aTNorm (⟨s1, xs1, t1, ys1, fun _ _ _ h => h, e1, k1⟩ : IsT ([.v (.bool s1), lr L xs1] ++ [.v (.bool t1), lr L ys1]) L m e) (M := (max L 2 + 1)) (by omega) (by omega)) rfl rfl rfl) ?_
  refine .nil ?_
  refine mS hTT 2 (.box 30 (tn (max K 2 + 1) (mkR n d))) rfl ?_
  refine mS hTT 3 (.box 30 (tn (max L 2 + 1) (mkR m e))) rfl ?_
  refine mNil ?_
  refine tN ?_
  refine cSeq ?_
  refine cSeq ?_
  refine cReg ?_
  refine mV hTT (.ptr 3 0) rfl ?_
  refine mV hTT (.d (.agg (zn (max L 2 + 1) (Rat.num (mkR m e))))) rfl ?_
  refine mC0 (aZero (isn (max L 2 + 1) (Rat.num (mkR m e)))) rfl rfl rfl ?_
  refine mNil ?_
  refine tN ?_
  refine cView 12 (.d (.one (.v (.bool true)))) rfl (le_bool (decide_eq_true (by rw [hq]; rfl))) ?_
  refine cT rfl ?_
  refine cSeq ?_
  refine cReg ?_
  refine mV hTT (.d (.agg ([.v (.bool false), .v (.slice none 0 0), .v (.bool false), .v (.slice none 0 0)]))) rfl ?_
  refine mS hTT 4 (.box 30 ([.v (.bool false), .v (.slice none 0 0), .v (.bool false), .v (.slice none 0 0)])) rfl ?_
  refine mV hTT _ rfl ?_
  refine mNil ?_
  refine tN ?_
  refine cRet ?_
  refine tR ?_
  exact rQ rfl (AV.le.rfl)

set_option maxRecDepth 100000 in
set_option maxHeartbeats 4000000 in
theorem aTNeg {a : List Lf} {K M : Nat} {n d : Int} (ha : IsT a K n d) (hM : max K 2 + 1 ≤ M := by decide) (hMM : M ≤ 100000000 := by decide) : ACall Tryz.prog 31 [.agg a] (.d (.agg (tn M (-(mkR n d))))) := by
  obtain ⟨s0, xs0, t0, ys0, ha, e0, k0⟩ := ha
  refine ACall.le (dl (DV.g ha) dl0) AV.le.rfl ?_
  refine acallN hTT 10 [.cell 2 30] Tryz.func31 rfl rfl rfl rfl rfl ?_
  refine cSeq ?_
  refine cReg ?_
  refine mN hTT (.box 30 ([.v (.bool s0), lr K xs0] ++ [.v (.bool t0), lr K ys0])) rfl rfl rfl ?_
  refine mN hTT (.box 30 ([.v (.bool false), .v (.slice none 0 0), .v (.bool false), .v (.slice none 0 0)])) rfl rfl rfl ?_
  refine mNil ?_
  refine tN ?_
  refine cSeq ?_
  refine cReg ?_
  refine mV hTT (.d (.agg ([.v (.bool s0), lr K xs0] ++ [.v (.bool t0), lr K ys0]))) rfl ?_
  refine mC0 (aTNorm (⟨s0, xs0, t0, ys0, fun _ _ _ h => h, e0, k0⟩ : IsT ([.v (.bool s0), lr K xs0] ++ [.v (.bool t0), lr K ys0]) K n d) (M := (max K 2 + 1)) (by omega) (by omega)) rfl rfl rfl ?_
  refine mS hTT 1 (.box 30 (tn (max K 2 + 1) (mkR n d))) rfl ?_
  refine mNil ?_
  refine tN ?_
  refine cSeq ?_
  refine cReg ?_
  refine mV hTT (.ptr 1 0) rfl ?_
  refine mV hTT (.d (.agg (zn (max K 2 + 1) (Rat.num (mkR n d))))) rfl ?_
  refine mC0 (aNeg (isz (max K 2 + 1) (Rat.num (mkR n d))) (by omega)) rfl rfl rfl ?_
  refine mV hTT (.ptr 1 0) rfl ?_
  refine mS hTT 1 (.box 30 (zn (max K 2 + 1) (-(Rat.num (mkR n d))) ++ zn (max K 2 + 1) (Rat.den (mkR n d) : Int))) rfl ?_
  refine mNil ?_
  refine tN ?_
  refine cSeq ?_
  refine cReg ?_
  refine mV hTT (.d (.agg (zn (max K 2 + 1) (-(Rat.num (mkR n d))) ++ zn (max K 2 + 1) (Rat.den (mkR n d) : Int)))) rfl ?_
  refine mS hTT 2 (.box 30 (zn (max K 2 + 1) (-(Rat.num (mkR n d))) ++ zn (max K 2 + 1) (Rat.den (mkR n d) : Int))) rfl ?_
  refine mNil ?_
  refine tN ?_
  refine cRet ?_
  exact rQ rfl (le_tn2 (by omega) (by omega) (by rw [Rat.neg_num]) (by rw [Rat.neg_den]))

def fq (f : Nat → (Bool × List Nat) × (Bool × List Nat)) (i : Nat) : Rat := mkR (zv (f i).1.1 (val (f i).1.2)) (zv (f i).2.1 (val (f i).2.2))
set_option maxRecDepth 100000 in
set_option maxHeartbeats 4000000 in
theorem aTMaxs {a : List Lf} {K L M n0 : Nat} {n d : Int} {f : Nat → (Bool × List Nat) × (Bool × List Nat)} (ha : IsT a K n d) (hM : max K 2 + 1 ≤ M := by decide) (hL : max L 2 + 1 ≤ M := by decide) (hn : n0 ≤ 100000 := by decide) (hMM : M ≤ 10000000 := by decide) : ACall Tryz.prog 107 [.agg a, .one (trow L n0 f)] (.d (.agg (tn M (tmax (mkR n d) (fq f) n0)))) := by
  obtain ⟨s0, xs0, t0, ys0, ha, e0, k0⟩ := ha
  refine ACall.le (dl (DV.g ha) (dl DV.same dl0)) AV.le.rfl ?_
  refine acallN hTT 24 [.cell 4 30] Tryz.func107 rfl rfl rfl rfl rfl ?_
  refine cSeq ?_
  refine cReg ?_
  refine mN hTT (.box 30 ([.v (.bool s0), lr K xs0] ++ [.v (.bool t0), lr K ys0])) rfl rfl rfl ?_
  refine mN hTT (.box 30 ([.v (.bool false), .v (.slice none 0 0), .v (.bool false), .v (.slice none 0 0)])) rfl rfl rfl ?_
  refine mNil ?_
  refine tN ?_
  refine cSeq ?_
  refine cReg ?_
  refine mV hTT (.d (.agg ([.v (.bool s0), lr K xs0] ++ [.v (.bool t0), lr K ys0]))) rfl ?_
  refine mC0 (aTNorm (⟨s0, xs0, t0, ys0, fun _ _ _ h => h, e0, k0⟩ : IsT ([.v (.bool s0), lr K xs0] ++ [.v (.bool t0), lr K ys0]) K n d) (M := (max K 2 + 1)) (by omega) (by omega)) rfl rfl rfl ?_
  refine mN hTT (.box 30 ([.v (.bool false), .v (.slice none 0 0), .v (.bool false), .v (.slice none 0 0)])) rfl rfl rfl ?_
  refine mS hTT 5 (.box 30 (tn (max K 2 + 1) (mkR n d))) rfl ?_
  refine mNil ?_
  refine tN ?_
  refine cSeq ?_
  refine cSeq ?_
  refine cReg ?_
  refine mV hTT _ rfl ?_
  refine mV hTT (.d (.one (.v (.int .i64 (n0 : Int))))) rfl ?_
  refine mV hTT _ rfl ?_
  refine mNil ?_
  refine tN ?_
  refine cBlock ?_
  refine cLoop (ι := Nat) (fun (i : Nat) => ⟨24, [(4, .ptr 4 0), (5, .ptr 5 0), (10, .d (.one (.row 4 n0 (tael L f)))), (11, .d (.one (.v (.int .i64 (n0 : Int))))), (12, .d (.one (.v (.int .i64 ((i : Nat) : Int)))))], [(4, .box 30 ([.v (.bool false), .v (.slice none 0 0), .v (.bool false), .v (.slice none 0 0)])), (5, .box 30 (tn M (tmax (mkR n d) (fq f) i)))]⟩) (fun (i : Nat) => i ≤ n0) (fun (i : Nat) => n0 - i) 0 (Nat.zero_le _) (wk (sl := [(4, .ptr 4 0), (5, .ptr 5 0), (10, .d (.one (.row 4 n0 (tael L f)))), (11, .d (.one (.v (.int .i64 (n0 : Int))))), (12, .d (.one (.v (.int .i64 ((0 : Nat) : Int)))))]) (hp := [(4, .box 30 ([.v (.bool false), .v (.slice none 0 0), .v (.bool false), .v (.slice none 0 0)])), (5, .box 30 (tn M (tmax (mkR n d) (fq f) 0)))]) rfl ⟨hs rfl, hs rfl, hs rfl, hs rfl, hs rfl, trivial⟩ ⟨ho rfl, ho' rfl (leo_tn (by omega) rfl), trivial⟩ rfl) ?_
  rintro i hI
  have hi : i ≤ n0 := hI
  show AW Tryz.prog _ _ ⟨24, [(4, .ptr 4 0), (5, .ptr 5 0), (10, .d (.one (.row 4 n0 (tael L f)))), (11, .d (.one (.v (.int .i64 (n0 : Int))))), (12, .d (.one (.v (.int .i64 ((i : Nat) : Int)))))], [(4, .box 30 ([.v (.bool false), .v (.slice none 0 0), .v (.bool false), .v (.slice none 0 0)])), (5, .box 30 (tn M (tmax (mkR n d) (fq f) i)))]⟩
  refine cSeq ?_
  refine cReg ?_
  refine mV hTT (.d (.one (.v (.bool (decide (((i : Nat) : Int) < (n0 : Int))))))) rfl ?_
  refine mNil ?_
  refine tN ?_
  refine cSeq ?_
  refine cCond rfl (fun hc1 => ?_) (fun hc1 => ?_)
  · skip
    refine cSkip ?_
    refine tN ?_
    refine cSeq ?_
    refine cBlock ?_
    refine cSeq ?_
    have hin : i < n0 := by have h0 := of_decide_eq_true hc1; omega
    refine cReg ?_
    refine mV hTT (.d (.one (.at 4 ((tael L f) i)))) (ixR (el := (tael L f)) (z := ((i : Nat) : Int)) (n := n0) rfl rfl rfl rfl rfl rfl (by omega) (by omega)) ?_
    refine mV hTT (.d (.agg ([.v (.bool ((f i).1.1)), lr L ((f i).1.2)] ++ [.v (.bool ((f i).2.1)), lr L ((f i).2.2)]))) rfl ?_
    refine mN hTT (.box 30 ([.v (.bool false), .v (.slice none 0 0), .v (.bool false), .v (.slice none 0 0)])) rfl rfl rfl ?_
    refine mS hTT 7 (.box 30 ([.v (.bool ((f i).1.1)), lr L ((f i).1.2)] ++ [.v (.bool ((f i).2.1)), lr L ((f i).2.2)])) rfl ?_
    refine mNil ?_
    refine tN ?_
    refine cSeq ?_
    refine cReg ?_
    refine mV hTT (.d (.agg ([.v (.bool ((f i).1.1)), lr L ((f i).1.2)] ++ [.v (.bool ((f i).2.1)), lr L ((f i).2.2)]))) rfl ?_
    refine mV hTT (.d (.agg (tn M (tmax (mkR n d) (fq f) i)))) rfl ?_
    refine mC0 (aTCmp (⟨(f i).1.1, ((f i).1.2), (f i).2.1, ((f i).2.2), fun _ _ _ h => h, rfl, rfl⟩ : IsT ([.v (.bool (f i).1.1), lr L ((f i).1.2)] ++ [.v (.bool (f i).2.1), lr L ((f i).2.2)]) L (zv ((f i).1.1) (val ((f i).1.2))) (zv ((f i).2.1) (val ((f i).2.2)))) (ist_tn M (tmax (mkR n d) (fq f) i)) (by omega) (by omega)) rfl rfl rfl ?_
    refine mV hTT (.d (.one (.v (.bool (decide ((cmpQ (mkR (zv ((f i).1.1) (val ((f i).1.2))) (zv ((f i).2.1) (val ((f i).2.2)))) (mkR (Rat.num (tmax (mkR n d) (fq f) i)) (Rat.den (tmax (mkR n d) (fq f) i) : Int))) > 0)))))) rfl ?_
    refine mNil ?_
    refine tN ?_
    refine cCond rfl (fun hc2 => ?_) (fun hc2 => ?_)
    · skip
      refine cReg ?_
      refine mV hTT (.d (.agg ([.v (.bool ((f i).1.1)), lr L ((f i).1.2)] ++ [.v (.bool ((f i).2.1)), lr L ((f i).2.2)]))) rfl ?_
      refine mC0 (aTNorm (⟨(f i).1.1, ((f i).1.2), (f i).2.1, ((f i).2.2), fun _ _ _ h => h, rfl, rfl⟩ : IsT ([.v (.bool (f i).1.1), lr L ((f i).1.2)] ++ [.v (.bool (f i).2.1), lr L ((f i).2.2)]) L (zv ((f i).1.1) (val ((f i).1.2))) (zv ((f i).2.1) (val ((f i).2.2)))) (M := (max L 2 + 1)) (by omega) (by omega)) rfl rfl rfl ?_
      refine mS hTT 5 (.box 30 (tn (max L 2 + 1) (mkR (zv ((f i).1.1) (val ((f i).1.2))) (zv ((f i).2.1) (val ((f i).2.2)))))) rfl ?_
      refine mNil ?_
      refine bN ?_
      refine tN ?_
      refine cReg ?_
      refine mV hTT (.d (.one (.v (.int .i64 (IntKind.i64.wrap (((i : Nat) : Int) + 1)))))) rfl ?_
      refine mV hTT _ rfl ?_
      refine mNil ?_
      exact ⟨(i + 1), by omega, by omega, wk (sl := [(4, .ptr 4 0), (5, .ptr 5 0), (10, .d (.one (.row 4 n0 (tael L f)))), (11, .d (.one (.v (.int .i64 (n0 : Int))))), (12, .d (.one (.v (.int .i64 (((i + 1) : Nat) : Int)))))]) (hp := [(4, .box 30 ([.v (.bool false), .v (.slice none 0 0), .v (.bool false), .v (.slice none 0 0)])), (5, .box 30 (tn M (tmax (mkR n d) (fq f) (i + 1))))]) rfl ⟨hs rfl, hs rfl, hs rfl, hs rfl, hs' rfl (le_int (inc64 (by omega))), trivial⟩ ⟨ho rfl, ho' rfl (leo_tn (by omega) (by show _ = (if cmpQ (fq f i) (tmax (mkR n d) (fq f) i) > 0 then fq f i else tmax (mkR n d) (fq f) i); rw [if_pos (by have h0 := of_decide_eq_true hc2; rw [mkR_self] at h0; exact h0)]; rfl)), trivial⟩ rfl⟩
    · skip
      refine cSkip ?_
      refine bN ?_
      refine tN ?_
      refine cReg ?_
      refine mV hTT (.d (.one (.v (.int .i64 (IntKind.i64.wrap (((i : Nat) : Int) + 1)))))) rfl ?_
      refine mV hTT _ rfl ?_
      refine mNil ?_
      exact ⟨(i + 1), by omega, by omega, wk (sl := [(4, .ptr 4 0), (5, .ptr 5 0), (10, .d (.one (.row 4 n0 (tael L f)))), (11, .d (.one (.v (.int .i64 (n0 : Int))))), (12, .d (.one (.v (.int .i64 (((i + 1) : Nat) : Int)))))]) (hp := [(4, .box 30 ([.v (.bool false), .v (.slice none 0 0), .v (.bool false), .v (.slice none 0 0)])), (5, .box 30 (tn M (tmax (mkR n d) (fq f) (i + 1))))]) rfl ⟨hs rfl, hs rfl, hs rfl, hs rfl, hs' rfl (le_int (inc64 (by omega))), trivial⟩ ⟨ho rfl, ho' rfl (leo_tn (by omega) (by show _ = (if cmpQ (fq f i) (tmax (mkR n d) (fq f) i) > 0 then fq f i else tmax (mkR n d) (fq f) i); rw [if_neg (by have h0 := of_decide_eq_false hc2; rw [mkR_self] at h0; exact h0)])), trivial⟩ rfl⟩
  · skip
    refine cExit ?_
    refine tE ?_
    refine tE ?_
    refine bE ?_
    refine tN ?_
    refine cSeq ?_
    refine cReg ?_
    refine mV hTT (.d (.agg (tn M (tmax (mkR n d) (fq f) i)))) rfl ?_
    refine mS hTT 4 (.box 30 (tn M (tmax (mkR n d) (fq f) i))) rfl ?_
    refine mNil ?_
    refine tN ?_
    refine cRet ?_
    have hie : n0 = i := by have h0 := of_decide_eq_false hc1; omega
    subst hie
    exact rQ rfl (le_tn (Nat.le_refl _) rfl)

theorem aSameX {K L : Nat} {xs : List Nat} (hK : K ≤ 1000000000 := by decide) (hL : L ≤ 1000000000 := by decide) : ACall Tryz.prog 89 [.one (lr K xs), .one (lr L xs)] (.d (.one (.v (.bool true)))) := ACall.le (dl DV.same (dl DV.same dl0)) (le_bool (decide_eq_true rfl)) (aSame (by omega) (by omega))
set_option maxRecDepth 100000 in
set_option maxHeartbeats 4000000 in
theorem aSameInt {K L : Nat} {s : Bool} {xs : List Nat} (hK : K ≤ 1000000000 := by decide) (hL : L ≤ 1000000000 := by decide) : ACall Tryz.prog 49 [.agg [.v (.bool s), lr K xs], .agg [.v (.bool s), lr L xs]] (.d (.one (.v (.bool true)))) := by
  refine acallN hTT 17 [.tmp 4] Tryz.func49 rfl rfl rfl rfl rfl ?_
  refine cSeq ?_
  refine cReg ?_
  refine mN hTT (.box 26 ([.v (.bool s), lr K xs])) rfl rfl rfl ?_
  refine mN hTT (.box 26 ([.v (.bool s), lr L xs])) rfl rfl rfl ?_
  refine mV hTT _ rfl ?_
  refine mNil ?_
  refine tN ?_
  refine cSeq ?_
  refine cReg ?_
  refine mV hTT (.ptr 2 0) rfl ?_
  refine mV hTT (.d (.one (.v (.bool s)))) rfl ?_
  refine mV hTT (.ptr 3 0) rfl ?_
  refine mV hTT (.d (.one (.v (.bool s)))) rfl ?_
  refine mV hTT (.d (.one (.v (.bool true)))) (evb (beq_self_eq_true _)) ?_
  refine mV hTT _ rfl ?_
  refine mV hTT (.ptr 2 1) rfl ?_
  refine mV hTT (.d (.one (lr K xs))) rfl ?_
  refine mV hTT (.ptr 3 1) rfl ?_
  refine mV hTT (.d (.one (lr L xs))) rfl ?_
  refine mC0 (aSameX (K := K) (L := L) (xs := xs) (by omega) (by omega)) rfl rfl rfl ?_
  refine mV hTT _ rfl ?_
  refine mV hTT _ rfl ?_
  refine mNil ?_
  refine tN ?_
  refine cRet ?_
  exact rQ rfl (AV.le.rfl)

theorem aSameZ {K L : Nat} {x y : Int} (h : x = y) (hK : K ≤ 1000000000 := by decide) (hL : L ≤ 1000000000 := by decide) : ACall Tryz.prog 49 [.agg (zn K x), .agg (zn L y)] (.d (.one (.v (.bool true)))) := by subst h; exact aSameInt hK hL
set_option maxRecDepth 100000 in
set_option maxHeartbeats 4000000 in
theorem aSameRat {K L : Nat} {s t : Bool} {xs ys : List Nat} (hK : K ≤ 1000000000 := by decide) (hL : L ≤ 1000000000 := by decide) : ACall Tryz.prog 21 [.agg (tan K s xs t ys), .agg (tan L s xs t ys)] (.d (.one (.v (.bool true)))) := by
  refine acallN hTT 17 [.tmp 4] Tryz.func21 rfl rfl rfl rfl rfl ?_
  refine cSeq ?_
  refine cReg ?_
  refine mN hTT (.box 30 ([.v (.bool s), lr K xs] ++ [.v (.bool t), lr K ys])) rfl rfl rfl ?_
  refine mN hTT (.box 30 ([.v (.bool s), lr L xs] ++ [.v (.bool t), lr L ys])) rfl rfl rfl ?_
  refine mV hTT _ rfl ?_
  refine mNil ?_
  refine tN ?_
  refine cSeq ?_
  refine cReg ?_
  refine mV hTT (.ptr 2 0) rfl ?_
  refine mV hTT (.d (.agg ([.v (.bool s), lr K xs]))) rfl ?_
  refine mV hTT (.ptr 3 0) rfl ?_
  refine mV hTT (.d (.agg ([.v (.bool s), lr L xs]))) rfl ?_
  refine mC0 (aSameInt (K := K) (L := L) (s := s) (xs := xs) (by omega) (by omega)) rfl rfl rfl ?_
  refine mV hTT _ rfl ?_
  refine mV hTT (.ptr 2 2) rfl ?_
  refine mV hTT (.d (.agg ([.v (.bool t), lr K ys]))) rfl ?_
  refine mV hTT (.ptr 3 2) rfl ?_
  refine mV hTT (.d (.agg ([.v (.bool t), lr L ys]))) rfl ?_
  refine mC0 (aSameInt (K := K) (L := L) (s := t) (xs := ys) (by omega) (by omega)) rfl rfl rfl ?_
  refine mV hTT _ rfl ?_
  refine mV hTT _ rfl ?_
  refine mNil ?_
  refine tN ?_
  refine cRet ?_
  exact rQ rfl (AV.le.rfl)

set_option maxRecDepth 100000 in
set_option maxHeartbeats 4000000 in
theorem aSameT {K L : Nat} {p q : Rat} (h : p = q) (hK : K ≤ 1000000000 := by decide) (hL : L ≤ 1000000000 := by decide) : ACall Tryz.prog 21 [.agg (tn K p), .agg (tn L q)] (.d (.one (.v (.bool true)))) := by
  subst h
  refine acallN hTT 17 [.tmp 4] Tryz.func21 rfl rfl rfl rfl rfl ?_
  refine cSeq ?_
  refine cReg ?_
  refine mN hTT (.box 30 (tn K p)) rfl rfl rfl ?_
  refine mN hTT (.box 30 (tn L p)) rfl rfl rfl ?_
  refine mV hTT _ rfl ?_
  refine mNil ?_
  refine tN ?_
  refine cSeq ?_
  refine cReg ?_
  refine mV hTT (.ptr 2 0) rfl ?_
  refine mV hTT (.d (.agg (zn K (Rat.num p)))) rfl ?_
  refine mV hTT (.ptr 3 0) rfl ?_
  refine mV hTT (.d (.agg (zn L (Rat.num p)))) rfl ?_
  refine mC0 (aSameZ (K := K) (L := L) (x := (Rat.num p)) (y := (Rat.num p)) rfl (by omega) (by omega)) rfl rfl rfl ?_
  refine mV hTT _ rfl ?_
  refine mV hTT (.ptr 2 2) rfl ?_
  refine mV hTT (.d (.agg (zn K (Rat.den p : Int)))) rfl ?_
  refine mV hTT (.ptr 3 2) rfl ?_
  refine mV hTT (.d (.agg (zn L (Rat.den p : Int)))) rfl ?_
  refine mC0 (aSameZ (K := K) (L := L) (x := (Rat.den p : Int)) (y := (Rat.den p : Int)) rfl (by omega) (by omega)) rfl rfl rfl ?_
  refine mV hTT _ rfl ?_
  refine mV hTT _ rfl ?_
  refine mNil ?_
  refine tN ?_
  refine cRet ?_
  exact rQ rfl (AV.le.rfl)

end Go.Proofs.YtcnfblffeghboaaGreat

/-
  CURVES, by the machine (1): over, norm, Make, Of, Deg; comparisons of orrerykeep.
-/
set_option linter.unusedVariables false
set_option linter.unusedSimpArgs false
namespace Go.Proofs.YtcnfblffeghboaaGreat
open Go.RowKit

set_option maxRecDepth 100000 in
set_option maxHeartbeats 4000000 in
theorem aCOver {a : Lf} {b : List Lf} {K L M n : Nat} {c : Nat → Int} {y : Int} (ha : IsP a K n c) (hb : IsZ b L y) (hy : y ≠ 0) (hd : ∀ i, i < n → y ∣ c i) (hn : n ≤ 1000) (hM : max K 1 + 1 ≤ M := by decide) (hMM : M ≤ 100000000 := by decide) (hL : L ≤ 100000000 := by decide) : ACall Tryz.prog 75 [.one a, .agg b] (.d (.one (prow M (dg (fdv c y) n) (fdv c y)))) := by
  obtain ⟨⟨fa, ha, ea⟩, za⟩ := ha
  obtain ⟨s, xs, hb, hy0⟩ := hb
  refine ACall.le (dl (DV.l ha) (dl (DV.z hb) dl0)) AV.le.rfl ?_
  refine acallN hTT 30 [.tmp 4] Tryz.func75 rfl rfl rfl rfl rfl ?_
  refine cSeq ?_
  refine cReg ?_
  refine mN hTT (.box 26 ([.v (.bool s), lr L xs])) rfl rfl rfl ?_
  refine mV hTT _ rfl ?_
  refine mNil ?_
  refine tN ?_
  refine cSeq ?_
  refine cReg ?_
  refine mV hTT _ rfl ?_
  refine mV hTT (.d (.one (.v (.int .i64 (n : Int))))) rfl ?_
  refine mN hTT (.row 26 2 n (fun _ j => .v ((([Value.bool false, Value.slice none 0 0] : List Value)[j]?).getD undef))) (mkO (zl := (n : Int)) (zc := (n : Int)) (bts := 32) rfl rfl rfl rfl rfl (by omega) (by omega) rfl rfl rfl (by omega) (by omega) rfl) rfl rfl ?_
  refine mV hTT _ rfl ?_
  refine mNil ?_
  refine tN ?_
  refine cSeq ?_
  refine cSeq ?_
  refine cReg ?_
  refine mV hTT _ rfl ?_
  refine mV hTT (.d (.one (.v (.int .i64 (n : Int))))) rfl ?_
  refine mV hTT _ rfl ?_
  refine mNil ?_
  refine tN ?_
  refine cBlock ?_
  refine cLoop (ι := Nat) (fun (i : Nat) => ⟨30, [(3, .ptr 3 0), (11, .d (.one (.row 2 n (ael K fa)))), (12, .d (.one (.v (.int .i64 (n : Int))))), (13, .d (.one (.v (.int .i64 ((i : Nat) : Int))))), (5, .own 10)], [(3, .box 26 ([.v (.bool s), lr L xs])), (10, .row 26 2 n (zel M (upd (fdv c y) i)))]⟩) (fun (i : Nat) => i ≤ n) (fun (i : Nat) => n - i) 0 (Nat.zero_le _) (wk (sl := [(3, .ptr 3 0), (11, .d (.one (.row 2 n (ael K fa)))), (12, .d (.one (.v (.int .i64 (n : Int))))), (13, .d (.one (.v (.int .i64 ((0 : Nat) : Int))))), (5, .own 10)]) (hp := [(3, .box 26 ([.v (.bool s), lr L xs])), (10, .row 26 2 n (zel M (upd (fdv c y) 0)))]) rfl ⟨hs rfl, hs rfl, hs rfl, hs rfl, hs rfl, trivial⟩ ⟨ho rfl, ho' rfl (leo_zero (fun i _ => if_neg (Nat.not_lt_zero _))), trivial⟩ rfl) ?_
  rintro i hI
  have hi : i ≤ n := hI
  show AW Tryz.prog _ _ ⟨30, [(3, .ptr 3 0), (11, .d (.one (.row 2 n (ael K fa)))), (12, .d (.one (.v (.int .i64 (n : Int))))), (13, .d (.one (.v (.int .i64 ((i : Nat) : Int))))), (5, .own 10)], [(3, .box 26 ([.v (.bool s), lr L xs])), (10, .row 26 2 n (zel M (upd (fdv c y) i)))]⟩
  refine cSeq ?_
  refine cReg ?_
  refine mV hTT (.d (.one (.v (.bool (decide (((i : Nat) : Int) < (n : Int))))))) rfl ?_
  refine mNil ?_
  refine tN ?_
  refine cSeq ?_
  refine cCond rfl (fun hc1 => ?_) (fun hc1 => ?_)
  · skip
    refine cSkip ?_
    refine tN ?_
    refine cSeq ?_
    refine cBlock ?_
    refine cSeq ?_
    have hin : i < n := by have h0 := of_decide_eq_true hc1; omega
    refine cReg ?_
    refine mV hTT _ rfl ?_
    refine mV hTT (.d (.one (.at 2 ((ael K fa) i)))) (ixR (el := (ael K fa)) (z := ((i : Nat) : Int)) (n := n) rfl rfl rfl rfl rfl rfl (by omega) (by omega)) ?_
    refine mV hTT (.d (.agg ([.v (.bool ((fa i).1)), lr K ((fa i).2)]))) rfl ?_
    refine mN hTT (.box 26 ([.v (.bool false), .v (.slice none 0 0)])) rfl rfl rfl ?_
    refine mV hTT _ rfl ?_
    refine mS hTT 7 (.box 26 ([.v (.bool ((fa i).1)), lr K ((fa i).2)])) rfl ?_
    refine mNil ?_
    refine tN ?_
    refine cReg ?_
    refine mV hTT _ rfl ?_
    refine mV hTT _ rfl ?_
    refine mV hTT (.d (.agg ([.v (.bool ((fa i).1)), lr K ((fa i).2)]))) rfl ?_
    refine mV hTT (.d (.agg ([.v (.bool s), lr L xs]))) rfl ?_
    refine mC0 (aExact ⟨_, _, fun _ _ _ h => h, ea i (by omega)⟩ ⟨s, xs, fun _ _ _ h => h, hy0⟩ hy (hd i hin) (M := (max K 1 + 1)) (by omega) (by omega) (by omega)) rfl rfl rfl ?_
    refine mV hTT _ rfl ?_
    refine mV hTT _ rfl ?_
    refine mV hTT _ rfl ?_
    refine mV hTT (.eptr 10 2 i 0) (ixO (z := ((i : Nat) : Int)) (n := n) rfl rfl rfl rfl rfl rfl rfl (by omega) (by omega)) ?_
    refine mS hTT 10 (.row 26 2 n (fun p' q' => if p' = i then ((zn (max K 1 + 1) ((c i) / y))[q']?).getD (.v undef) else (zel M (upd (fdv c y) i)) p' q')) rfl ?_
    refine mNil ?_
    refine bN ?_
    refine tN ?_
    refine cReg ?_
    refine mV hTT (.d (.one (.v (.int .i64 (IntKind.i64.wrap (((i : Nat) : Int) + 1)))))) rfl ?_
    refine mV hTT _ rfl ?_
    refine mNil ?_
    exact ⟨(i + 1), by omega, by omega, wk (sl := [(3, .ptr 3 0), (11, .d (.one (.row 2 n (ael K fa)))), (12, .d (.one (.v (.int .i64 (n : Int))))), (13, .d (.one (.v (.int .i64 (((i + 1) : Nat) : Int))))), (5, .own 10)]) (hp := [(3, .box 26 ([.v (.bool s), lr L xs])), (10, .row 26 2 n (zel M (upd (fdv c y) (i + 1))))]) rfl ⟨hs rfl, hs rfl, hs rfl, hs' rfl (le_int (inc64 (by omega))), hs rfl, trivial⟩ ⟨ho rfl, ho' rfl (st_z (Nat.le_refl _) (by omega) (upd_self (c := fdv c y)) (fun p _ hp => upd_ne hp)), trivial⟩ rfl⟩
  · skip
    refine cExit ?_
    refine tE ?_
    refine tE ?_
    refine bE ?_
    refine tN ?_
    refine cSeq ?_
    have hie : n = i := by have h0 := of_decide_eq_false hc1; omega
    subst hie
    refine AW.wk (wkRow 10 rfl) ?_
    refine cView 5 (.d (.one (.row 2 n (zel M (fdv c y))))) rfl (le_one (prow_le (Nat.le_refl _) (fun i hi => if_pos hi))) ?_
    refine cReg ?_
    refine mV hTT _ rfl ?_
    refine mC0 (aPNorm (isp (K := M) (c := (fdv c y)) (fdv_z za)) (by omega) (by omega)) rfl rfl rfl ?_
    refine mV hTT _ rfl ?_
    refine mNil ?_
    refine tN ?_
    refine cRet ?_
    exact rQ rfl (AV.le.rfl)

set_option maxRecDepth 100000 in
set_option maxHeartbeats 4000000 in
theorem aCNorm {a b : Lf} {d : List Lf} {K M n m : Nat} {x y : Nat → Int} {D : Int} (ha : IsP a K n x) (hb : IsP b K m y) (hd : IsZ d K D) (hn : n ≤ 1000) (hm : m ≤ 1000) (hM : max K 2 + 1 ≤ M) (hMM : M ≤ 10000000) : ACall Tryz.prog 34 [.agg (a :: b :: d)] (.d (.agg (crv M n m (ov (nzD D) x) (ov (nzD D) y)))) := by
  obtain ⟨⟨fa, ha, ea⟩, za⟩ := ha
  obtain ⟨⟨fb, hb, eb⟩, zb⟩ := hb
  obtain ⟨s, xs, hd, hy0⟩ := hd
  refine ACall.le (dl (DV.g (ls_abd ha hb hd)) dl0) AV.le.rfl ?_
  have hdx := dg_le x n
  have hdy := dg_le y m
  refine acallN hTT 44 [.cell 2 28] Tryz.func34 rfl rfl rfl rfl rfl ?_
  refine cSeq ?_
  refine cReg ?_
  refine mN hTT (.box 28 ([.row 2 n (ael K fa)] ++ [.row 2 m (ael K fb)] ++ [.v (.bool s), lr K xs])) rfl rfl rfl ?_
  refine mN hTT (.box 28 ([.v (.slice none 0 0), .v (.slice none 0 0), .v (.bool false), .v (.slice none 0 0)])) rfl rfl rfl ?_
  refine mNil ?_
  refine tN ?_
  refine cSeq ?_
  refine cDrawK hTT 12 (by kernel_rfl) (by kernel_rfl) (by kernel_rfl) ?_
  refine .cons (OpS.V (.ptr 1 0) rfl) ?_
  refine .cons (OpS.V (.d (.one (.row 2 n (ael K fa)))) rfl) ?_
  refine .cons (OpS.C0 (aPNorm (⟨⟨fa, fun _ _ _ h => h, ea⟩, za⟩ : IsP (arow K n fa) K n x) (by omega) (by omega)) rfl rfl rfl) ?_
  refine .cons (OpS.V (.ptr 1 1) rfl) ?_
  refine .cons (OpS.V (.d (.one (.row 2 m (ael K fb)))) rfl) ?_
  refine .cons (OpS.C0 (aPNorm (⟨⟨fb, fun _ _ _ h => h, eb⟩, zb⟩ : IsP (arow K m fb) K m y) (by omega) (by omega)) rfl rfl rfl) ?_
  refine .cons (OpS.V (.ptr 1 2) rfl) ?_
  refine .cons (OpS.V (.d (.agg ([.v (.bool s), lr K xs]))) rfl) ?_
  refine .cons (OpS.C0 (aNorm ⟨s, xs, fun _ _ _ h => h, hy0⟩ (by omega)) rfl rfl rfl) ?_
  refine .cons (OpS.N (.box 26 ([.v (.bool false), .v (.slice none 0 0)])) rfl 5 rfl rfl) ?_
  refine .cons (OpS.V _ rfl) ?_
  refine .cons (OpS.V _ rfl) ?_
  refine .nil ?_
  refine mS hTT 5 (.box 26 (zn K D)) rfl ?_
  refine mNil ?_
  refine tN ?_
  refine cSeq ?_
  refine cSeq ?_
  refine cReg ?_
  refine mV hTT (.d (.agg (zn K D))) rfl ?_
  refine mC0 (aZero (isn K D)) rfl rfl rfl ?_
  refine mNil ?_
  refine tN ?_
  by_cases hD : D = 0
  · skip
    have hD' : (1 : Int) ≠ 0 := by decide
    have hnz : nzD D = 1 := if_pos hD
    refine cView 17 (.d (.one (.v (.bool true)))) rfl (le_bool (decide_eq_true hD)) ?_
    refine cT rfl ?_
    refine cReg ?_
    refine mC0 (aOf (n := 1) (by decide) (by decide)) rfl rfl rfl ?_
    refine mS hTT 5 (.box 26 (zn 2 1)) rfl ?_
    refine mNil ?_
    refine tN ?_
    refine cSeq ?_
    refine cReg ?_
    refine mV hTT (.d (.agg (zn 2 1))) rfl ?_
    refine mR hTT (.row 26 2 1 (fun i' j' => ((zn 2 1)[i' * 2 + j']?).getD (.v undef))) rfl rfl rfl ?_
    refine mV hTT _ rfl ?_
    refine mA2 hTT (id := 20) (n := 1) (m := (dg x n)) (el := (fun i' j' => ((zn 2 1)[i' * 2 + j']?).getD (.v undef))) (el2 := (zel K x)) rfl rfl rfl (by show (1 + (dg x n)) * 32 ≤ 140737488355328; omega) (by omega) rfl rfl rfl rfl rfl rfl rfl rfl rfl rfl rfl rfl ?_
    refine mV hTT _ rfl ?_
    refine mA2 hTT (id := 20) (n := (1 + (dg x n))) (m := (dg y m)) (el := (appEl 1 (fun i' j' => ((zn 2 1)[i' * 2 + j']?).getD (.v undef)) (zel K x))) (el2 := (zel K y)) rfl rfl rfl (by show ((1 + (dg x n)) + (dg y m)) * 32 ≤ 140737488355328; omega) (by omega) rfl rfl rfl rfl rfl rfl rfl rfl rfl rfl rfl rfl ?_
    refine AL.wk (wkRow 20 rfl) ?_
    refine mC0 (aGcd (isp_g (K := max K 2) (K1 := K) (K2 := K) (K3 := 2) (n := dg x n) (m := dg y m) (D := 1) (x := x) (y := y) (by omega) (by omega) (by omega) (dg_z zb)) (by omega) (by omega)) rfl rfl rfl ?_
    refine mView 25 (.d (.agg (zn (max K 2) (((gD 1 (dg x n) x (dg y m) y) : Nat) : Int)))) rfl (AV.le.rfl) ?_
    refine mN hTT (.box 26 ([.v (.bool false), .v (.slice none 0 0)])) rfl rfl rfl ?_
    refine mS hTT 6 (.box 26 (zn (max K 2) (((gD 1 (dg x n) x (dg y m) y) : Nat) : Int))) rfl ?_
    refine mNil ?_
    refine tN ?_
    refine cSeq ?_
    refine cSeq ?_
    refine cReg ?_
    refine mV hTT (.ptr 5 0) rfl ?_
    refine mV hTT (.d (.one (.v (.bool (decide ((1 : Int) < 0)))))) rfl ?_
    refine mNil ?_
    refine tN ?_
    refine cCond rfl (fun hc1 => ?_) (fun hc1 => ?_)
    · skip
      refine cReg ?_
      refine mV hTT (.d (.agg (zn (max K 2) (((gD 1 (dg x n) x (dg y m) y) : Nat) : Int)))) rfl ?_
      refine mC0 (aNeg (isz (max K 2) (((gD 1 (dg x n) x (dg y m) y) : Nat) : Int)) (by omega)) rfl rfl rfl ?_
      refine mS hTT 6 (.box 26 (zn (max K 2) (-(((gD 1 (dg x n) x (dg y m) y) : Nat) : Int)))) rfl ?_
      refine mNil ?_
      refine tN ?_
      refine cSeq ?_
      refine AW.wk (wk (sl := [(2, .ptr 2 0), (5, .ptr 5 0), (3, .d (.one (.row 2 (dg x n) (zel K x)))), (4, .d (.one (.row 2 (dg y m) (zel K y)))), (6, .ptr 6 0)]) (hp := [(1, .box 28 ([.row 2 n (ael K fa)] ++ [.row 2 m (ael K fb)] ++ [.v (.bool s), lr K xs])), (2, .box 28 ([.v (.slice none 0 0), .v (.slice none 0 0), .v (.bool false), .v (.slice none 0 0)])), (5, .box 26 (zn 2 1)), (6, .box 26 (zn (max K 2) (gS 1 (gD 1 (dg x n) x (dg y m) y))))]) rfl ⟨hs rfl, hs rfl, hs rfl, hs rfl, hs rfl, trivial⟩ ⟨ho rfl, ho rfl, ho rfl, ho' rfl (leo_zn (Nat.le_refl _) ((if_pos (of_decide_eq_true hc1)).symm)), trivial⟩ rfl) ?_
      refine cReg ?_
      refine mV hTT (.d (.agg (zn 2 1))) rfl ?_
      refine mV hTT (.d (.agg (zn (max K 2) (gS 1 (gD 1 (dg x n) x (dg y m) y))))) rfl ?_
      refine mC0 (aExact (isz 2 1) (isz (max K 2) (gS 1 (gD 1 (dg x n) x (dg y m) y))) (gS_ne (gD_pos hD')) (gS_dvd gD_D) (M := 3) (by decide) (by decide) (by omega)) rfl rfl rfl ?_
      refine mV hTT _ rfl ?_
      refine mV hTT _ rfl ?_
      refine mV hTT _ rfl ?_
      refine mS hTT 5 (.box 26 (zn 3 (1 / (gS 1 (gD 1 (dg x n) x (dg y m) y))))) rfl ?_
      refine mNil ?_
      refine tN ?_
      refine cSeq ?_
      refine cDrawK hTT 8 (by kernel_rfl) (by kernel_rfl) (by kernel_rfl) ?_
      refine .cons (OpS.V _ rfl) ?_
      refine .cons (OpS.V (.d (.agg (zn (max K 2) (gS 1 (gD 1 (dg x n) x (dg y m) y))))) rfl) ?_
      refine .cons (OpS.C0 (aCOver (isp (K := K) (c := x) (dg_z za)) (isz (max K 2) (gS 1 (gD 1 (dg x n) x (dg y m) y))) (gS_ne (gD_pos hD')) (fun i hi => gS_dvd (gD_x hi)) (by omega) (M := (max K 1 + 1)) (by omega) (by omega) (by omega)) rfl rfl rfl) ?_
      refine .cons (OpS.V _ rfl) ?_
      refine .cons (OpS.V (.d (.agg (zn (max K 2) (gS 1 (gD 1 (dg x n) x (dg y m) y))))) rfl) ?_
      refine .cons (OpS.C0 (aCOver (isp (K := K) (c := y) (dg_z zb)) (isz (max K 2) (gS 1 (gD 1 (dg x n) x (dg y m) y))) (gS_ne (gD_pos hD')) (fun i hi => gS_dvd (gD_y hi)) (by omega) (M := (max K 1 + 1)) (by omega) (by omega) (by omega)) rfl rfl rfl) ?_
      refine .cons (OpS.V (.d (.agg (zn 3 (1 / (gS 1 (gD 1 (dg x n) x (dg y m) y)))))) rfl) ?_
      refine .cons (OpS.V (.d (.agg ([.row 2 (dg (fdv x (gS 1 (gD 1 (dg x n) x (dg y m) y))) (dg x n)) (zel (max K 1 + 1) (fdv x (gS 1 (gD 1 (dg x n) x (dg y m) y))))] ++ [.row 2 (dg (fdv y (gS 1 (gD 1 (dg x n) x (dg y m) y))) (dg y m)) (zel (max K 1 + 1) (fdv y (gS 1 (gD 1 (dg x n) x (dg y m) y))))] ++ zn 3 (1 / (gS 1 (gD 1 (dg x n) x (dg y m) y)))))) rfl) ?_
      refine .nil ?_
      refine mS hTT 2 (.box 28 ([.row 2 (dg (fdv x (gS 1 (gD 1 (dg x n) x (dg y m) y))) (dg x n)) (zel (max K 1 + 1) (fdv x (gS 1 (gD 1 (dg x n) x (dg y m) y))))] ++ [.row 2 (dg (fdv y (gS 1 (gD 1 (dg x n) x (dg y m) y))) (dg y m)) (zel (max K 1 + 1) (fdv y (gS 1 (gD 1 (dg x n) x (dg y m) y))))] ++ zn 3 (1 / (gS 1 (gD 1 (dg x n) x (dg y m) y))))) rfl ?_
      refine mNil ?_
      refine tN ?_
      refine cRet ?_
      exact rQ rfl (by rw [hnz]; exact le_norm hD' (by omega) (by omega) (by omega))
    · skip
      refine cSkip ?_
      refine tN ?_
      refine cSeq ?_
      refine AW.wk (wk (sl := [(2, .ptr 2 0), (5, .ptr 5 0), (3, .d (.one (.row 2 (dg x n) (zel K x)))), (4, .d (.one (.row 2 (dg y m) (zel K y)))), (6, .ptr 6 0)]) (hp := [(1, .box 28 ([.row 2 n (ael K fa)] ++ [.row 2 m (ael K fb)] ++ [.v (.bool s), lr K xs])), (2, .box 28 ([.v (.slice none 0 0), .v (.slice none 0 0), .v (.bool false), .v (.slice none 0 0)])), (5, .box 26 (zn 2 1)), (6, .box 26 (zn (max K 2) (gS 1 (gD 1 (dg x n) x (dg y m) y))))]) rfl ⟨hs rfl, hs rfl, hs rfl, hs rfl, hs rfl, trivial⟩ ⟨ho rfl, ho rfl, ho rfl, ho' rfl (leo_zn (Nat.le_refl _) ((if_neg (of_decide_eq_false hc1)).symm)), trivial⟩ rfl) ?_
      refine cReg ?_
      refine mV hTT (.d (.agg (zn 2 1))) rfl ?_
      refine mV hTT (.d (.agg (zn (max K 2) (gS 1 (gD 1 (dg x n) x (dg y m) y))))) rfl ?_
      refine mC0 (aExact (isz 2 1) (isz (max K 2) (gS 1 (gD 1 (dg x n) x (dg y m) y))) (gS_ne (gD_pos hD')) (gS_dvd gD_D) (M := 3) (by decide) (by decide) (by omega)) rfl rfl rfl ?_
      refine mV hTT _ rfl ?_
      refine mV hTT _ rfl ?_
      refine mV hTT _ rfl ?_
      refine mS hTT 5 (.box 26 (zn 3 (1 / (gS 1 (gD 1 (dg x n) x (dg y m) y))))) rfl ?_
      refine mNil ?_
      refine tN ?_
      refine cSeq ?_
      refine cDrawK hTT 8 (by kernel_rfl) (by kernel_rfl) (by kernel_rfl) ?_
      refine .cons (OpS.V _ rfl) ?_
      refine .cons (OpS.V (.d (.agg (zn (max K 2) (gS 1 (gD 1 (dg x n) x (dg y m) y))))) rfl) ?_
      refine .cons (OpS.C0 (aCOver (isp (K := K) (c := x) (dg_z za)) (isz (max K 2) (gS 1 (gD 1 (dg x n) x (dg y m) y))) (gS_ne (gD_pos hD')) (fun i hi => gS_dvd (gD_x hi)) (by omega) (M := (max K 1 + 1)) (by omega) (by omega) (by omega)) rfl rfl rfl) ?_
      refine .cons (OpS.V _ rfl) ?_
      refine .cons (OpS.V (.d (.agg (zn (max K 2) (gS 1 (gD 1 (dg x n) x (dg y m) y))))) rfl) ?_
      refine .cons (OpS.C0 (aCOver (isp (K := K) (c := y) (dg_z zb)) (isz (max K 2) (gS 1 (gD 1 (dg x n) x (dg y m) y))) (gS_ne (gD_pos hD')) (fun i hi => gS_dvd (gD_y hi)) (by omega) (M := (max K 1 + 1)) (by omega) (by omega) (by omega)) rfl rfl rfl) ?_
      refine .cons (OpS.V (.d (.agg (zn 3 (1 / (gS 1 (gD 1 (dg x n) x (dg y m) y)))))) rfl) ?_
      refine .cons (OpS.V (.d (.agg ([.row 2 (dg (fdv x (gS 1 (gD 1 (dg x n) x (dg y m) y))) (dg x n)) (zel (max K 1 + 1) (fdv x (gS 1 (gD 1 (dg x n) x (dg y m) y))))] ++ [.row 2 (dg (fdv y (gS 1 (gD 1 (dg x n) x (dg y m) y))) (dg y m)) (zel (max K 1 + 1) (fdv y (gS 1 (gD 1 (dg x n) x (dg y m) y))))] ++ zn 3 (1 / (gS 1 (gD 1 (dg x n) x (dg y m) y)))))) rfl) ?_
      refine .nil ?_
      refine mS hTT 2 (.box 28 ([.row 2 (dg (fdv x (gS 1 (gD 1 (dg x n) x (dg y m) y))) (dg x n)) (zel (max K 1 + 1) (fdv x (gS 1 (gD 1 (dg x n) x (dg y m) y))))] ++ [.row 2 (dg (fdv y (gS 1 (gD 1 (dg x n) x (dg y m) y))) (dg y m)) (zel (max K 1 + 1) (fdv y (gS 1 (gD 1 (dg x n) x (dg y m) y))))] ++ zn 3 (1 / (gS 1 (gD 1 (dg x n) x (dg y m) y))))) rfl ?_
      refine mNil ?_
      refine tN ?_
      refine cRet ?_
      exact rQ rfl (by rw [hnz]; exact le_norm hD' (by omega) (by omega) (by omega))
  · skip
    have hD' : (D : Int) ≠ 0 := hD
    have hnz : nzD D = D := if_neg hD
    refine cView 17 (.d (.one (.v (.bool false)))) rfl (le_bool (decide_eq_false hD)) ?_
    refine cF rfl ?_
    refine cSkip ?_
    refine tN ?_
    refine cSeq ?_
    refine cReg ?_
    refine mV hTT (.d (.agg (zn K D))) rfl ?_
    refine mR hTT (.row 26 2 1 (fun i' j' => ((zn K D)[i' * 2 + j']?).getD (.v undef))) rfl rfl rfl ?_
    refine mV hTT _ rfl ?_
    refine mA2 hTT (id := 20) (n := 1) (m := (dg x n)) (el := (fun i' j' => ((zn K D)[i' * 2 + j']?).getD (.v undef))) (el2 := (zel K x)) rfl rfl rfl (by show (1 + (dg x n)) * 32 ≤ 140737488355328; omega) (by omega) rfl rfl rfl rfl rfl rfl rfl rfl rfl rfl rfl rfl ?_
    refine mV hTT _ rfl ?_
    refine mA2 hTT (id := 20) (n := (1 + (dg x n))) (m := (dg y m)) (el := (appEl 1 (fun i' j' => ((zn K D)[i' * 2 + j']?).getD (.v undef)) (zel K x))) (el2 := (zel K y)) rfl rfl rfl (by show ((1 + (dg x n)) + (dg y m)) * 32 ≤ 140737488355328; omega) (by omega) rfl rfl rfl rfl rfl rfl rfl rfl rfl rfl rfl rfl ?_
    refine AL.wk (wkRow 20 rfl) ?_
    refine mC0 (aGcd (isp_g (K := max K 2) (K1 := K) (K2 := K) (K3 := K) (n := dg x n) (m := dg y m) (D := D) (x := x) (y := y) (by omega) (by omega) (by omega) (dg_z zb)) (by omega) (by omega)) rfl rfl rfl ?_
    refine mView 25 (.d (.agg (zn (max K 2) (((gD D (dg x n) x (dg y m) y) : Nat) : Int)))) rfl (AV.le.rfl) ?_
    refine mN hTT (.box 26 ([.v (.bool false), .v (.slice none 0 0)])) rfl rfl rfl ?_
    refine mS hTT 6 (.box 26 (zn (max K 2) (((gD D (dg x n) x (dg y m) y) : Nat) : Int))) rfl ?_
    refine mNil ?_
    refine tN ?_
    refine cSeq ?_
    refine cSeq ?_
    refine cReg ?_
    refine mV hTT (.ptr 5 0) rfl ?_
    refine mV hTT (.d (.one (.v (.bool (decide (D < 0)))))) rfl ?_
    refine mNil ?_
    refine tN ?_
    refine cCond rfl (fun hc2 => ?_) (fun hc2 => ?_)
    · skip
      refine cReg ?_
      refine mV hTT (.d (.agg (zn (max K 2) (((gD D (dg x n) x (dg y m) y) : Nat) : Int)))) rfl ?_
      refine mC0 (aNeg (isz (max K 2) (((gD D (dg x n) x (dg y m) y) : Nat) : Int)) (by omega)) rfl rfl rfl ?_
      refine mS hTT 6 (.box 26 (zn (max K 2) (-(((gD D (dg x n) x (dg y m) y) : Nat) : Int)))) rfl ?_
      refine mNil ?_
      refine tN ?_
      refine cSeq ?_
      refine AW.wk (wk (sl := [(2, .ptr 2 0), (5, .ptr 5 0), (3, .d (.one (.row 2 (dg x n) (zel K x)))), (4, .d (.one (.row 2 (dg y m) (zel K y)))), (6, .ptr 6 0)]) (hp := [(1, .box 28 ([.row 2 n (ael K fa)] ++ [.row 2 m (ael K fb)] ++ [.v (.bool s), lr K xs])), (2, .box 28 ([.v (.slice none 0 0), .v (.slice none 0 0), .v (.bool false), .v (.slice none 0 0)])), (5, .box 26 (zn K D)), (6, .box 26 (zn (max K 2) (gS D (gD D (dg x n) x (dg y m) y))))]) rfl ⟨hs rfl, hs rfl, hs rfl, hs rfl, hs rfl, trivial⟩ ⟨ho rfl, ho rfl, ho rfl, ho' rfl (leo_zn (Nat.le_refl _) ((if_pos (of_decide_eq_true hc2)).symm)), trivial⟩ rfl) ?_
      refine cReg ?_
      refine mV hTT (.d (.agg (zn K D))) rfl ?_
      refine mV hTT (.d (.agg (zn (max K 2) (gS D (gD D (dg x n) x (dg y m) y))))) rfl ?_
      refine mC0 (aExact (isz K D) (isz (max K 2) (gS D (gD D (dg x n) x (dg y m) y))) (gS_ne (gD_pos hD')) (gS_dvd gD_D) (M := (max K 1 + 1)) (by omega) (by omega) (by omega)) rfl rfl rfl ?_
      refine mV hTT _ rfl ?_
      refine mV hTT _ rfl ?_
      refine mV hTT _ rfl ?_
      refine mS hTT 5 (.box 26 (zn (max K 1 + 1) (D / (gS D (gD D (dg x n) x (dg y m) y))))) rfl ?_
      refine mNil ?_
      refine tN ?_
      refine cSeq ?_
      refine cDrawK hTT 8 (by kernel_rfl) (by kernel_rfl) (by kernel_rfl) ?_
      refine .cons (OpS.V _ rfl) ?_
      refine .cons (OpS.V (.d (.agg (zn (max K 2) (gS D (gD D (dg x n) x (dg y m) y))))) rfl) ?_
      refine .cons (OpS.C0 (aCOver (isp (K := K) (c := x) (dg_z za)) (isz (max K 2) (gS D (gD D (dg x n) x (dg y m) y))) (gS_ne (gD_pos hD')) (fun i hi => gS_dvd (gD_x hi)) (by omega) (M := (max K 1 + 1)) (by omega) (by omega) (by omega)) rfl rfl rfl) ?_
      refine .cons (OpS.V _ rfl) ?_
      refine .cons (OpS.V (.d (.agg (zn (max K 2) (gS D (gD D (dg x n) x (dg y m) y))))) rfl) ?_
      refine .cons (OpS.C0 (aCOver (isp (K := K) (c := y) (dg_z zb)) (isz (max K 2) (gS D (gD D (dg x n) x (dg y m) y))) (gS_ne (gD_pos hD')) (fun i hi => gS_dvd (gD_y hi)) (by omega) (M := (max K 1 + 1)) (by omega) (by omega) (by omega)) rfl rfl rfl) ?_
      refine .cons (OpS.V (.d (.agg (zn (max K 1 + 1) (D / (gS D (gD D (dg x n) x (dg y m) y)))))) rfl) ?_
      refine .cons (OpS.V (.d (.agg ([.row 2 (dg (fdv x (gS D (gD D (dg x n) x (dg y m) y))) (dg x n)) (zel (max K 1 + 1) (fdv x (gS D (gD D (dg x n) x (dg y m) y))))] ++ [.row 2 (dg (fdv y (gS D (gD D (dg x n) x (dg y m) y))) (dg y m)) (zel (max K 1 + 1) (fdv y (gS D (gD D (dg x n) x (dg y m) y))))] ++ zn (max K 1 + 1) (D / (gS D (gD D (dg x n) x (dg y m) y)))))) rfl) ?_
      refine .nil ?_
      refine mS hTT 2 (.box 28 ([.row 2 (dg (fdv x (gS D (gD D (dg x n) x (dg y m) y))) (dg x n)) (zel (max K 1 + 1) (fdv x (gS D (gD D (dg x n) x (dg y m) y))))] ++ [.row 2 (dg (fdv y (gS D (gD D (dg x n) x (dg y m) y))) (dg y m)) (zel (max K 1 + 1) (fdv y (gS D (gD D (dg x n) x (dg y m) y))))] ++ zn (max K 1 + 1) (D / (gS D (gD D (dg x n) x (dg y m) y))))) rfl ?_
      refine mNil ?_
      refine tN ?_
      refine cRet ?_
      exact rQ rfl (by rw [hnz]; exact le_norm hD' (by omega) (by omega) (by omega))
    · skip
      refine cSkip ?_
      refine tN ?_
      refine cSeq ?_
      refine AW.wk (wk (sl := [(2, .ptr 2 0), (5, .ptr 5 0), (3, .d (.one (.row 2 (dg x n) (zel K x)))), (4, .d (.one (.row 2 (dg y m) (zel K y)))), (6, .ptr 6 0)]) (hp := [(1, .box 28 ([.row 2 n (ael K fa)] ++ [.row 2 m (ael K fb)] ++ [.v (.bool s), lr K xs])), (2, .box 28 ([.v (.slice none 0 0), .v (.slice none 0 0), .v (.bool false), .v (.slice none 0 0)])), (5, .box 26 (zn K D)), (6, .box 26 (zn (max K 2) (gS D (gD D (dg x n) x (dg y m) y))))]) rfl ⟨hs rfl, hs rfl, hs rfl, hs rfl, hs rfl, trivial⟩ ⟨ho rfl, ho rfl, ho rfl, ho' rfl (leo_zn (Nat.le_refl _) ((if_neg (of_decide_eq_false hc2)).symm)), trivial⟩ rfl) ?_
      refine cReg ?_
      refine mV hTT (.d (.agg (zn K D))) rfl ?_
      refine mV hTT (.d (.agg (zn (max K 2) (gS D (gD D (dg x n) x (dg y m) y))))) rfl ?_
      refine mC0 (aExact (isz K D) (isz (max K 2) (gS D (gD D (dg x n) x (dg y m) y))) (gS_ne (gD_pos hD')) (gS_dvd gD_D) (M := (max K 1 + 1)) (by omega) (by omega) (by omega)) rfl rfl rfl ?_
      refine mV hTT _ rfl ?_
      refine mV hTT _ rfl ?_
      refine mV hTT _ rfl ?_
      refine mS hTT 5 (.box 26 (zn (max K 1 + 1) (D / (gS D (gD D (dg x n) x (dg y m) y))))) rfl ?_
      refine mNil ?_
      refine tN ?_
      refine cSeq ?_
      refine cDrawK hTT 8 (by kernel_rfl) (by kernel_rfl) (by kernel_rfl) ?_
      refine .cons (OpS.V _ rfl) ?_
      refine .cons (OpS.V (.d (.agg (zn (max K 2) (gS D (gD D (dg x n) x (dg y m) y))))) rfl) ?_
      refine .cons (OpS.C0 (aCOver (isp (K := K) (c := x) (dg_z za)) (isz (max K 2) (gS D (gD D (dg x n) x (dg y m) y))) (gS_ne (gD_pos hD')) (fun i hi => gS_dvd (gD_x hi)) (by omega) (M := (max K 1 + 1)) (by omega) (by omega) (by omega)) rfl rfl rfl) ?_
      refine .cons (OpS.V _ rfl) ?_
      refine .cons (OpS.V (.d (.agg (zn (max K 2) (gS D (gD D (dg x n) x (dg y m) y))))) rfl) ?_
      refine .cons (OpS.C0 (aCOver (isp (K := K) (c := y) (dg_z zb)) (isz (max K 2) (gS D (gD D (dg x n) x (dg y m) y))) (gS_ne (gD_pos hD')) (fun i hi => gS_dvd (gD_y hi)) (by omega) (M := (max K 1 + 1)) (by omega) (by omega) (by omega)) rfl rfl rfl) ?_
      refine .cons (OpS.V (.d (.agg (zn (max K 1 + 1) (D / (gS D (gD D (dg x n) x (dg y m) y)))))) rfl) ?_
      refine .cons (OpS.V (.d (.agg ([.row 2 (dg (fdv x (gS D (gD D (dg x n) x (dg y m) y))) (dg x n)) (zel (max K 1 + 1) (fdv x (gS D (gD D (dg x n) x (dg y m) y))))] ++ [.row 2 (dg (fdv y (gS D (gD D (dg x n) x (dg y m) y))) (dg y m)) (zel (max K 1 + 1) (fdv y (gS D (gD D (dg x n) x (dg y m) y))))] ++ zn (max K 1 + 1) (D / (gS D (gD D (dg x n) x (dg y m) y)))))) rfl) ?_
      refine .nil ?_
      refine mS hTT 2 (.box 28 ([.row 2 (dg (fdv x (gS D (gD D (dg x n) x (dg y m) y))) (dg x n)) (zel (max K 1 + 1) (fdv x (gS D (gD D (dg x n) x (dg y m) y))))] ++ [.row 2 (dg (fdv y (gS D (gD D (dg x n) x (dg y m) y))) (dg y m)) (zel (max K 1 + 1) (fdv y (gS D (gD D (dg x n) x (dg y m) y))))] ++ zn (max K 1 + 1) (D / (gS D (gD D (dg x n) x (dg y m) y))))) rfl ?_
      refine mNil ?_
      refine tN ?_
      refine cRet ?_
      exact rQ rfl (by rw [hnz]; exact le_norm hD' (by omega) (by omega) (by omega))

theorem aCNormC {K M n m : Nat} {p q : Nat → Rat} (zp : ∀ i, n ≤ i → p i = 0) (zq : ∀ i, m ≤ i → q i = 0) (hn : n ≤ 1000) (hm : m ≤ 1000) (hM : max K 2 + 1 ≤ M) (hMM : M ≤ 10000000) : ACall Tryz.prog 34 [.agg (crv K n m p q)] (.d (.agg (crv M n m p q))) := by
  have h1 := dg_le p n
  have h2 := dg_le q m
  exact ACall.le (dl DV.same dl0) (le_crv (Nat.le_refl _) (ov_zz (nzD_ne _) (cX_z (dg_z zp))) (ov_zz (nzD_ne _) (cX_z (dg_z zq))) zp zq (ov_crL zp) (ov_crL2 zq)) (aCNorm (a := prow K (dg p n) (cX (crL n m p q) p)) (b := prow K (dg q m) (cX (crL n m p q) q)) (d := zn K (crL n m p q : Int)) (isp (cX_z (dg_z zp))) (isp (cX_z (dg_z zq))) (isz K _) (by omega) (by omega) hM hMM)
set_option maxRecDepth 100000 in
set_option maxHeartbeats 4000000 in
theorem aCOf {a b : Lf} {K M n m : Nat} {x y : Nat → Int} (ha : IsP a K n x) (hb : IsP b K m y) (hn : n ≤ 1000) (hm : m ≤ 1000) (hM : max K 2 + 1 ≤ M) (hMM : M ≤ 10000000) : ACall Tryz.prog 19 [.one a, .one b] (.d (.agg (crv M n m (rc x) (rc y)))) := by
  obtain ⟨⟨fa, ha, ea⟩, za⟩ := ha
  obtain ⟨⟨fb, hb, eb⟩, zb⟩ := hb
  refine ACall.le (dl (DV.l ha) (dl (DV.l hb) dl0)) AV.le.rfl ?_
  refine acallN hTT 9 [.cell 4 28] Tryz.func19 rfl rfl rfl rfl rfl ?_
  refine cSeq ?_
  refine cReg ?_
  refine mN hTT (.box 28 ([.v (.slice none 0 0), .v (.slice none 0 0), .v (.bool false), .v (.slice none 0 0)])) rfl rfl rfl ?_
  refine mNil ?_
  refine tN ?_
  refine cSeq ?_
  refine cReg ?_
  refine mV hTT _ rfl ?_
  refine mV hTT _ rfl ?_
  refine mV hTT (.d (.agg ([.row 2 n (ael K fa), .row 2 m (ael K fb), .v (.bool false), .v (.slice none 0 0)]))) rfl ?_
  refine mC0 (aCNorm (IsP.mono (L := (max K (max K 0))) (⟨⟨fa, fun _ _ _ h => h, ea⟩, za⟩ : IsP (arow K n fa) K n x) (by omega)) (IsP.mono (L := (max K (max K 0))) (⟨⟨fb, fun _ _ _ h => h, eb⟩, zb⟩ : IsP (arow K m fb) K m y) (by omega)) (IsZ.mono (L := (max K (max K 0))) isz_nil (by omega)) (M := (max (max K (max K 0)) 2 + 1)) (by omega) (by omega) (by omega) (by omega)) rfl rfl rfl ?_
  refine mS hTT 4 (.box 28 (crv (max (max K (max K 0)) 2 + 1) n m (ov (nzD (0 : Int)) x) (ov (nzD (0 : Int)) y))) rfl ?_
  refine mNil ?_
  refine tN ?_
  refine cRet ?_
  exact rQ rfl (le_crv (by omega) (ov_zz (nzD_ne _) za) (ov_zz (nzD_ne _) zb) (rc_z za) (rc_z zb) (ov_one x) (ov_one y))

def degC (n m : Nat) (p q : Nat → Rat) : Nat := max (max (dg p n) (dg q m)) 1 - 1
set_option maxRecDepth 100000 in
set_option maxHeartbeats 4000000 in
theorem aCDeg {K n m : Nat} {p q : Nat → Rat} (zp : ∀ i, n ≤ i → p i = 0) (zq : ∀ i, m ≤ i → q i = 0) (hn : n ≤ 1000) (hm : m ≤ 1000) (hK : K ≤ 1000000) : ACall Tryz.prog 16 [.agg (crv K n m p q)] (.d (.one (.v (.int .i64 ((degC n m p q : Nat) : Int))))) := by
  have hdp := dg_le p n
  have hdq := dg_le q m
  refine acallN hTT 12 [.tmp 2] Tryz.func16 rfl rfl rfl rfl rfl ?_
  refine cSeq ?_
  refine cReg ?_
  refine mN hTT (.box 28 (crv K n m p q)) rfl rfl rfl ?_
  refine mV hTT _ rfl ?_
  refine mNil ?_
  refine tN ?_
  refine cSeq ?_
  refine cReg ?_
  refine mV hTT (.d (.agg (crv K n m p q))) rfl ?_
  refine mC0 (aCNormC (K := K) (n := n) (m := m) (M := (max K 2 + 1)) zp zq (by omega) (by omega) (by omega) (by omega)) rfl rfl rfl ?_
  refine mS hTT 1 (.box 28 (crv (max K 2 + 1) n m p q)) rfl ?_
  refine mNil ?_
  refine tN ?_
  refine cSeq ?_
  refine cDrawK hTT 8 (by kernel_rfl) (by kernel_rfl) (by kernel_rfl) ?_
  refine .cons (OpS.V (.ptr 1 0) rfl) ?_
  refine .cons (OpS.V (.d (.one (.row 2 (dg p n) (zel (max K 2 + 1) (cX (crL n m p q) p))))) rfl) ?_
  refine .cons (OpS.C0 (aDeg (K := (max K 2 + 1)) (n := (dg p n)) (c := (cX (crL n m p q) p)) (by omega)) rfl rfl rfl) ?_
  refine .cons (OpS.V (.ptr 1 1) rfl) ?_
  refine .cons (OpS.V (.d (.one (.row 2 (dg q m) (zel (max K 2 + 1) (cX (crL n m p q) q))))) rfl) ?_
  refine .cons (OpS.C0 (aDeg (K := (max K 2 + 1)) (n := (dg q m)) (c := (cX (crL n m p q) q)) (by omega)) rfl rfl rfl) ?_
  refine .cons (OpS.V (.d (.one (.v (.int .i64 ((degC n m p q : Nat) : Int))))) (evi (by rw [if_pos rfl, if_pos rfl]; unfold degC; omega))) ?_
  refine .cons (OpS.V _ rfl) ?_
  refine .nil ?_
  refine mNil ?_
  refine tN ?_
  refine cRet ?_
  exact rQ rfl (AV.le.rfl)

set_option maxRecDepth 100000 in
set_option maxHeartbeats 4000000 in
theorem aSamePoly {K L n : Nat} {c : Nat → Int} (hn : n ≤ 1000000) (hK : K ≤ 100000000) (hL : L ≤ 100000000) : ACall Tryz.prog 51 [.one (prow K n c), .one (prow L n c)] (.d (.one (.v (.bool true)))) := by
  refine acallN hTT 27 [.tmp 4] Tryz.func51 rfl rfl rfl rfl rfl ?_
  refine cSeq ?_
  refine cReg ?_
  refine mV hTT _ rfl ?_
  refine mNil ?_
  refine tN ?_
  refine cSeq ?_
  refine cSeq ?_
  refine cReg ?_
  refine mV hTT _ rfl ?_
  refine mV hTT (.d (.one (.v (.int .i64 (n : Int))))) rfl ?_
  refine mV hTT _ rfl ?_
  refine mV hTT (.d (.one (.v (.int .i64 (n : Int))))) rfl ?_
  refine mV hTT (.d (.one (.v (.bool false)))) (evb (bne_self_eq_false _)) ?_
  refine mNil ?_
  refine tN ?_
  refine cF rfl ?_
  refine cSkip ?_
  refine tN ?_
  refine cSeq ?_
  refine cSeq ?_
  refine cReg ?_
  refine mV hTT _ rfl ?_
  refine mV hTT (.d (.one (.v (.int .i64 (n : Int))))) rfl ?_
  refine mV hTT _ rfl ?_
  refine mNil ?_
  refine tN ?_
  refine cBlock ?_
  refine cLoop (ι := Nat) (fun (i : Nat) => ⟨27, [(0, .d (.one (.row 2 n (zel K c)))), (1, .d (.one (.row 2 n (zel L c)))), (12, .d (.one (.v (.int .i64 (n : Int))))), (13, .d (.one (.v (.int .i64 ((i : Nat) : Int)))))], []⟩) (fun (i : Nat) => i ≤ n) (fun (i : Nat) => n - i) 0 (Nat.zero_le _) (wk (sl := [(0, .d (.one (.row 2 n (zel K c)))), (1, .d (.one (.row 2 n (zel L c)))), (12, .d (.one (.v (.int .i64 (n : Int))))), (13, .d (.one (.v (.int .i64 ((0 : Nat) : Int)))))]) (hp := []) rfl ⟨hs rfl, hs rfl, hs rfl, hs rfl, trivial⟩ trivial rfl) ?_
  rintro i hI
  have hi : i ≤ n := hI
  show AW Tryz.prog _ _ ⟨27, [(0, .d (.one (.row 2 n (zel K c)))), (1, .d (.one (.row 2 n (zel L c)))), (12, .d (.one (.v (.int .i64 (n : Int))))), (13, .d (.one (.v (.int .i64 ((i : Nat) : Int)))))], []⟩
  refine cSeq ?_
  refine cReg ?_
  refine mV hTT (.d (.one (.v (.bool (decide (((i : Nat) : Int) < (n : Int))))))) rfl ?_
  refine mNil ?_
  refine tN ?_
  refine cSeq ?_
  refine cCond rfl (fun hc1 => ?_) (fun hc1 => ?_)
  · skip
    refine cSkip ?_
    refine tN ?_
    refine cSeq ?_
    refine cBlock ?_
    refine cSeq ?_
    have hin : i < n := by have h0 := of_decide_eq_true hc1; omega
    refine cReg ?_
    refine mV hTT _ rfl ?_
    refine mV hTT _ rfl ?_
    refine mNil ?_
    refine tN ?_
    refine cSeq ?_
    refine cDrawK hTT 10 (by kernel_rfl) (by kernel_rfl) (by kernel_rfl) ?_
    refine .cons (OpS.V _ rfl) ?_
    refine .cons (OpS.V _ rfl) ?_
    refine .cons (OpS.V (.d (.one (.at 2 ((zel K c) i)))) (ixR (el := (zel K c)) (z := ((i : Nat) : Int)) (n := n) rfl rfl rfl rfl rfl rfl (by omega) (by omega))) ?_
    refine .cons (OpS.V (.d (.agg (zn K (c i)))) rfl) ?_
    refine .cons (OpS.V _ rfl) ?_
    refine .cons (OpS.V _ rfl) ?_
    refine .cons (OpS.V (.d (.one (.at 2 ((zel L c) i)))) (ixR (el := (zel L c)) (z := ((i : Nat) : Int)) (n := n) rfl rfl rfl rfl rfl rfl (by omega) (by omega))) ?_
    refine .cons (OpS.V (.d (.agg (zn L (c i)))) rfl) ?_
    refine .cons (OpS.C0 (aSameZ (K := K) (L := L) (x := (c i)) (y := (c i)) rfl (by omega) (by omega)) rfl rfl rfl) ?_
    refine .cons (OpS.V (.d (.one (.v (.bool false)))) rfl) ?_
    refine .nil ?_
    refine mNil ?_
    refine tN ?_
    refine cF rfl ?_
    refine cSkip ?_
    refine bN ?_
    refine tN ?_
    refine cReg ?_
    refine mV hTT (.d (.one (.v (.int .i64 (IntKind.i64.wrap (((i : Nat) : Int) + 1)))))) rfl ?_
    refine mV hTT _ rfl ?_
    refine mNil ?_
    exact ⟨(i + 1), by omega, by omega, wk (sl := [(0, .d (.one (.row 2 n (zel K c)))), (1, .d (.one (.row 2 n (zel L c)))), (12, .d (.one (.v (.int .i64 (n : Int))))), (13, .d (.one (.v (.int .i64 (((i + 1) : Nat) : Int)))))]) (hp := []) rfl ⟨hs rfl, hs rfl, hs rfl, hs' rfl (le_int (inc64 (by omega))), trivial⟩ trivial rfl⟩
  · skip
    refine cExit ?_
    refine tE ?_
    refine tE ?_
    refine bE ?_
    refine tN ?_
    refine cSeq ?_
    refine cReg ?_
    refine mV hTT _ rfl ?_
    refine mNil ?_
    refine tN ?_
    refine cRet ?_
    exact rQ rfl (AV.le.rfl)

set_option maxRecDepth 100000 in
set_option maxHeartbeats 4000000 in
theorem aSameCurve {K L n m : Nat} {p q : Nat → Rat} (hn : n ≤ 1000000) (hm : m ≤ 1000000) (hK : K ≤ 100000000) (hL : L ≤ 100000000) : ACall Tryz.prog 24 [.agg (crv K n m p q), .agg (crv L n m p q)] (.d (.one (.v (.bool true)))) := by
  have hdp := dg_le p n
  have hdq := dg_le q m
  refine acallN hTT 24 [.tmp 4] Tryz.func24 rfl rfl rfl rfl rfl ?_
  refine cSeq ?_
  refine cReg ?_
  refine mN hTT (.box 28 (crv K n m p q)) rfl rfl rfl ?_
  refine mN hTT (.box 28 (crv L n m p q)) rfl rfl rfl ?_
  refine mV hTT _ rfl ?_
  refine mNil ?_
  refine tN ?_
  refine cSeq ?_
  refine cReg ?_
  refine mV hTT (.ptr 2 0) rfl ?_
  refine mV hTT (.d (.one (.row 2 (dg p n) (zel K (cX (crL n m p q) p))))) rfl ?_
  refine mV hTT (.ptr 3 0) rfl ?_
  refine mV hTT (.d (.one (.row 2 (dg p n) (zel L (cX (crL n m p q) p))))) rfl ?_
  refine mC0 (aSamePoly (K := K) (L := L) (n := (dg p n)) (c := (cX (crL n m p q) p)) (by omega) (by omega) (by omega)) rfl rfl rfl ?_
  refine mV hTT _ rfl ?_
  refine mV hTT (.ptr 2 1) rfl ?_
  refine mV hTT (.d (.one (.row 2 (dg q m) (zel K (cX (crL n m p q) q))))) rfl ?_
  refine mV hTT (.ptr 3 1) rfl ?_
  refine mV hTT (.d (.one (.row 2 (dg q m) (zel L (cX (crL n m p q) q))))) rfl ?_
  refine mC0 (aSamePoly (K := K) (L := L) (n := (dg q m)) (c := (cX (crL n m p q) q)) (by omega) (by omega) (by omega)) rfl rfl rfl ?_
  refine mV hTT _ rfl ?_
  refine mV hTT _ rfl ?_
  refine mV hTT (.ptr 2 2) rfl ?_
  refine mV hTT (.d (.agg (zn K ((crL n m p q) : Int)))) rfl ?_
  refine mV hTT (.ptr 3 2) rfl ?_
  refine mV hTT (.d (.agg (zn L ((crL n m p q) : Int)))) rfl ?_
  refine mC0 (aSameZ (K := K) (L := L) (x := ((crL n m p q) : Int)) (y := ((crL n m p q) : Int)) rfl (by omega) (by omega)) rfl rfl rfl ?_
  refine mV hTT _ rfl ?_
  refine mV hTT _ rfl ?_
  refine mNil ?_
  refine tN ?_
  refine cRet ?_
  exact rQ rfl (AV.le.rfl)

end Go.Proofs.YtcnfblffeghboaaGreat

/-
  CURVES, by the machine (2): Rebase; the plain reckoning's; law12's helps.
-/
set_option linter.unusedVariables false
set_option linter.unusedSimpArgs false
namespace Go.Proofs.YtcnfblffeghboaaGreat
open Go.RowKit

set_option maxRecDepth 100000 in
set_option maxHeartbeats 4000000 in
theorem aCRebase {a b : Lf} {t : List Lf} {K L M n m : Nat} {x y : Nat → Int} {u v : Int} (ha : IsP a K n x) (hb : IsP b K m y) (ht : IsT t L u v) (hn : n ≤ 6) (hm : m ≤ 6) (hM : 7 * (K + 4 * (max L 2 + 1) + 9000) + 2 + 5 * (max L 2 + 1) + 1 ≤ M) (hMM : M ≤ 10000000) : ACall Tryz.prog 10 [.one a, .one b, .agg t] (.d (.agg (crv M (dg x n) (dg y m) (shf (rc x) (dg x n) (-(mkR u v))) (shf (rc y) (dg y m) (-(mkR u v)))))) := by
  obtain ⟨⟨fa, ha, ea⟩, za⟩ := ha
  obtain ⟨⟨fb, hb, eb⟩, zb⟩ := hb
  obtain ⟨s0, xs0, t0, ys0, ht, e0, k0⟩ := ht
  refine ACall.le (dl (DV.l ha) (dl (DV.l hb) (dl (DV.g ht) dl0))) AV.le.rfl ?_
  have hdx := dg_le x n
  have hdy := dg_le y m
  have hdx2 := dg_le x (dg x n)
  have hdy2 := dg_le y (dg y m)
  obtain ⟨T, hT⟩ : ∃ T, T = K + 4 * (max L 2 + 1) + 9000 := ⟨_, rfl⟩
  obtain ⟨P, hP⟩ : ∃ P, P = 2 + 5 * (max L 2 + 1) := ⟨_, rfl⟩
  have hPj : ∀ j, j ≤ 5 → 2 + j * (max L 2 + 1) ≤ P := fun j hj => by have := Nat.mul_le_mul_right (max L 2 + 1) hj; omega
  have hden : ¬ (Rat.den (-(mkR u v)) : Int) = 0 := den_ne _
  have hm1 := dg_le (mvZ x (Rat.num (-(mkR u v))) (Rat.den (-(mkR u v)) : Int) (dg x (dg x n)) (dg x (dg x n))) (dg x (dg x n) + 1)
  have hm2 := dg_le (mvZ y (Rat.num (-(mkR u v))) (Rat.den (-(mkR u v)) : Int) (dg y (dg y m)) (dg y (dg y m))) (dg y (dg y m) + 1)
  refine acallN hTT 69 [.cell 6 28] Tryz.func10 rfl rfl rfl rfl rfl ?_
  refine cSeq ?_
  refine cReg ?_
  refine mN hTT (.box 30 ([.v (.bool s0), lr L xs0] ++ [.v (.bool t0), lr L ys0])) rfl rfl rfl ?_
  refine mN hTT (.box 28 ([.v (.slice none 0 0), .v (.slice none 0 0), .v (.bool false), .v (.slice none 0 0)])) rfl rfl rfl ?_
  refine mNil ?_
  refine tN ?_
  refine cSeq ?_
  refine cDrawK hTT 8 (by kernel_rfl) (by kernel_rfl) (by kernel_rfl) ?_
  refine .cons (OpS.V _ rfl) ?_
  refine .cons (OpS.C0 (aPNorm (⟨⟨fa, fun _ _ _ h => h, ea⟩, za⟩ : IsP (arow K n fa) K n x) (by omega) (by omega)) rfl rfl rfl) ?_
  refine .cons (OpS.V _ rfl) ?_
  refine .cons (OpS.C0 (aPNorm (⟨⟨fb, fun _ _ _ h => h, eb⟩, zb⟩ : IsP (arow K m fb) K m y) (by omega) (by omega)) rfl rfl rfl) ?_
  refine .cons (OpS.V (.d (.agg ([.v (.bool s0), lr L xs0] ++ [.v (.bool t0), lr L ys0]))) rfl) ?_
  refine .cons (OpS.C0 (aTNeg (⟨s0, xs0, t0, ys0, fun _ _ _ h => h, e0, k0⟩ : IsT ([.v (.bool s0), lr L xs0] ++ [.v (.bool t0), lr L ys0]) L u v) (M := (max L 2 + 1)) (by omega) (by omega)) rfl rfl rfl) ?_
  refine .cons (OpS.V _ rfl) ?_
  refine .cons (OpS.V _ rfl) ?_
  refine .nil ?_
  refine mS hTT 5 (.box 30 (tn (max L 2 + 1) (-(mkR u v)))) rfl ?_
  refine mNil ?_
  refine tN ?_
  refine cSeq ?_
  refine cReg ?_
  refine mV hTT _ rfl ?_
  refine mV hTT (.ptr 5 0) rfl ?_
  refine mV hTT (.d (.agg (zn (max L 2 + 1) (Rat.num (-(mkR u v)))))) rfl ?_
  refine mV hTT (.ptr 5 2) rfl ?_
  refine mV hTT (.d (.agg (zn (max L 2 + 1) (Rat.den (-(mkR u v)) : Int)))) rfl ?_
  refine mC0 (aPMove (isp (K := K) (c := x) (dg_z za)) (isz (max L 2 + 1) (Rat.num (-(mkR u v)))) (isz (max L 2 + 1) (Rat.den (-(mkR u v)) : Int)) (D := 6) (T := T) (M := (7 * T)) hden (by omega) (by decide) (by omega) (by omega) (by omega)) rfl rfl rfl ?_
  refine mV hTT _ rfl ?_
  refine mV hTT _ rfl ?_
  refine mV hTT _ rfl ?_
  refine mV hTT _ rfl ?_
  refine mV hTT _ rfl ?_
  refine mNil ?_
  refine tN ?_
  refine cSeq ?_
  refine cReg ?_
  refine mV hTT _ rfl ?_
  refine mV hTT (.ptr 5 0) rfl ?_
  refine mV hTT (.d (.agg (zn (max L 2 + 1) (Rat.num (-(mkR u v)))))) rfl ?_
  refine mV hTT (.ptr 5 2) rfl ?_
  refine mV hTT (.d (.agg (zn (max L 2 + 1) (Rat.den (-(mkR u v)) : Int)))) rfl ?_
  refine mC0 (aPMove (isp (K := K) (c := y) (dg_z zb)) (isz (max L 2 + 1) (Rat.num (-(mkR u v)))) (isz (max L 2 + 1) (Rat.den (-(mkR u v)) : Int)) (D := 6) (T := T) (M := (7 * T)) hden (by omega) (by decide) (by omega) (by omega) (by omega)) rfl rfl rfl ?_
  refine mV hTT _ rfl ?_
  refine mV hTT _ rfl ?_
  refine mV hTT _ rfl ?_
  refine mV hTT _ rfl ?_
  refine mV hTT _ rfl ?_
  refine mNil ?_
  refine tN ?_
  refine cSeq ?_
  refine cReg ?_
  refine mV hTT _ rfl ?_
  refine mC0 (aDeg (K := K) (n := (dg x n)) (c := x) (by omega)) rfl rfl rfl ?_
  refine mV hTT (.d (.one (.v (.int .i64 ((dg x n - 1 : Nat) : Int))))) (evi (by rw [if_pos rfl]; split <;> omega)) ?_
  refine mV hTT _ rfl ?_
  refine mC0 (aDeg (K := K) (n := (dg y m)) (c := y) (by omega)) rfl rfl rfl ?_
  refine mV hTT (.d (.one (.v (.int .i64 ((dg y m - 1 : Nat) : Int))))) (evi (by rw [if_pos rfl]; split <;> omega)) ?_
  refine mV hTT _ rfl ?_
  refine mV hTT _ rfl ?_
  refine mNil ?_
  refine tN ?_
  refine cSeq ?_
  refine cReg ?_
  refine mV hTT _ rfl ?_
  refine mV hTT _ rfl ?_
  refine mV hTT (.d (.one (.v (.int .i64 (((max (dg x n - 1) (dg y m - 1)) : Nat) : Int))))) (evi (by rw [if_pos rfl]; split <;> omega)) ?_
  refine mV hTT _ rfl ?_
  refine mNil ?_
  refine tN ?_
  refine cSeq ?_
  have hs1 := dg_le (fscl (mvZ x (Rat.num (-(mkR u v))) (Rat.den (-(mkR u v)) : Int) (dg x (dg x n)) (dg x (dg x n))) ((Rat.den (-(mkR u v)) : Int) ^ ((((max (dg x n - 1) (dg y m - 1)) - (dg x n - 1) : Nat) : Int)).toNat)) (dg (mvZ x (Rat.num (-(mkR u v))) (Rat.den (-(mkR u v)) : Int) (dg x (dg x n)) (dg x (dg x n))) (dg x (dg x n) + 1))
  have hs2 := dg_le (fscl (mvZ y (Rat.num (-(mkR u v))) (Rat.den (-(mkR u v)) : Int) (dg y (dg y m)) (dg y (dg y m))) ((Rat.den (-(mkR u v)) : Int) ^ ((((max (dg x n - 1) (dg y m - 1)) - (dg y m - 1) : Nat) : Int)).toNat)) (dg (mvZ y (Rat.num (-(mkR u v))) (Rat.den (-(mkR u v)) : Int) (dg y (dg y m)) (dg y (dg y m))) (dg y (dg y m) + 1))
  refine cDrawK hTT 22 (by kernel_rfl) (by kernel_rfl) (by kernel_rfl) ?_
  refine .cons (OpS.V _ rfl) ?_
  refine .cons (OpS.V (.ptr 5 2) rfl) ?_
  refine .cons (OpS.V (.d (.agg (zn (max L 2 + 1) (Rat.den (-(mkR u v)) : Int)))) rfl) ?_
  refine .cons (OpS.V _ rfl) ?_
  refine .cons (OpS.V _ rfl) ?_
  refine .cons (OpS.V (.d (.one (.v (.int .i64 (((max (dg x n - 1) (dg y m - 1)) - (dg x n - 1) : Nat) : Int))))) (evi ((wr64 (by omega) (by omega)).trans (by omega)))) ?_
  refine .cons (OpS.C0 (aPow (isz (max L 2 + 1) (Rat.den (-(mkR u v)) : Int)) (k := (((max (dg x n - 1) (dg y m - 1)) - (dg x n - 1) : Nat) : Int)) (M := P) (by omega) (by omega) (hPj _ (by omega)) (by omega)) rfl rfl rfl) ?_
  refine .cons (OpS.C0 (aPScale (isp (K := (7 * T)) (c := (mvZ x (Rat.num (-(mkR u v))) (Rat.den (-(mkR u v)) : Int) (dg x (dg x n)) (dg x (dg x n)))) (dg_z fun j hj => mvZ_z _ j (by omega))) (isz P ((Rat.den (-(mkR u v)) : Int) ^ ((((max (dg x n - 1) (dg y m - 1)) - (dg x n - 1) : Nat) : Int)).toNat)) (M := ((7 * T) + P)) (by omega) (by omega) (by omega)) rfl rfl rfl) ?_
  refine .cons (OpS.V _ rfl) ?_
  refine .cons (OpS.V (.ptr 5 2) rfl) ?_
  refine .cons (OpS.V (.d (.agg (zn (max L 2 + 1) (Rat.den (-(mkR u v)) : Int)))) rfl) ?_
  refine .cons (OpS.V _ rfl) ?_
  refine .cons (OpS.V _ rfl) ?_
  refine .cons (OpS.V (.d (.one (.v (.int .i64 (((max (dg x n - 1) (dg y m - 1)) - (dg y m - 1) : Nat) : Int))))) (evi ((wr64 (by omega) (by omega)).trans (by omega)))) ?_
  refine .cons (OpS.C0 (aPow (isz (max L 2 + 1) (Rat.den (-(mkR u v)) : Int)) (k := (((max (dg x n - 1) (dg y m - 1)) - (dg y m - 1) : Nat) : Int)) (M := P) (by omega) (by omega) (hPj _ (by omega)) (by omega)) rfl rfl rfl) ?_
  refine .cons (OpS.C0 (aPScale (isp (K := (7 * T)) (c := (mvZ y (Rat.num (-(mkR u v))) (Rat.den (-(mkR u v)) : Int) (dg y (dg y m)) (dg y (dg y m)))) (dg_z fun j hj => mvZ_z _ j (by omega))) (isz P ((Rat.den (-(mkR u v)) : Int) ^ ((((max (dg x n - 1) (dg y m - 1)) - (dg y m - 1) : Nat) : Int)).toNat)) (M := ((7 * T) + P)) (by omega) (by omega) (by omega)) rfl rfl rfl) ?_
  refine .cons (OpS.V (.ptr 5 2) rfl) ?_
  refine .cons (OpS.V (.d (.agg (zn (max L 2 + 1) (Rat.den (-(mkR u v)) : Int)))) rfl) ?_
  refine .cons (OpS.V _ rfl) ?_
  refine .cons (OpS.C0 (aPow (isz (max L 2 + 1) (Rat.den (-(mkR u v)) : Int)) (k := (((max (dg x n - 1) (dg y m - 1)) : Nat) : Int)) (M := P) (by omega) (by omega) (hPj _ (by omega)) (by omega)) rfl rfl rfl) ?_
  refine .cons (OpS.V (.d (.agg ([.row 2 (dg (fscl (mvZ x (Rat.num (-(mkR u v))) (Rat.den (-(mkR u v)) : Int) (dg x (dg x n)) (dg x (dg x n))) ((Rat.den (-(mkR u v)) : Int) ^ ((((max (dg x n - 1) (dg y m - 1)) - (dg x n - 1) : Nat) : Int)).toNat)) (dg (mvZ x (Rat.num (-(mkR u v))) (Rat.den (-(mkR u v)) : Int) (dg x (dg x n)) (dg x (dg x n))) (dg x (dg x n) + 1))) (zel ((7 * T) + P) (fscl (mvZ x (Rat.num (-(mkR u v))) (Rat.den (-(mkR u v)) : Int) (dg x (dg x n)) (dg x (dg x n))) ((Rat.den (-(mkR u v)) : Int) ^ ((((max (dg x n - 1) (dg y m - 1)) - (dg x n - 1) : Nat) : Int)).toNat)))] ++ [.row 2 (dg (fscl (mvZ y (Rat.num (-(mkR u v))) (Rat.den (-(mkR u v)) : Int) (dg y (dg y m)) (dg y (dg y m))) ((Rat.den (-(mkR u v)) : Int) ^ ((((max (dg x n - 1) (dg y m - 1)) - (dg y m - 1) : Nat) : Int)).toNat)) (dg (mvZ y (Rat.num (-(mkR u v))) (Rat.den (-(mkR u v)) : Int) (dg y (dg y m)) (dg y (dg y m))) (dg y (dg y m) + 1))) (zel ((7 * T) + P) (fscl (mvZ y (Rat.num (-(mkR u v))) (Rat.den (-(mkR u v)) : Int) (dg y (dg y m)) (dg y (dg y m))) ((Rat.den (-(mkR u v)) : Int) ^ ((((max (dg x n - 1) (dg y m - 1)) - (dg y m - 1) : Nat) : Int)).toNat)))] ++ zn P ((Rat.den (-(mkR u v)) : Int) ^ ((((max (dg x n - 1) (dg y m - 1)) : Nat) : Int)).toNat)))) rfl) ?_
  refine .cons (OpS.C0 (aCNorm (IsP.mono (L := (max ((7 * T) + P) (max ((7 * T) + P) P))) (isp (K := ((7 * T) + P)) (c := (fscl (mvZ x (Rat.num (-(mkR u v))) (Rat.den (-(mkR u v)) : Int) (dg x (dg x n)) (dg x (dg x n))) ((Rat.den (-(mkR u v)) : Int) ^ ((((max (dg x n - 1) (dg y m - 1)) - (dg x n - 1) : Nat) : Int)).toNat))) (dg_z (fscl_z (dg_z fun j hj => mvZ_z _ j (by omega))))) (by omega)) (IsP.mono (L := (max ((7 * T) + P) (max ((7 * T) + P) P))) (isp (K := ((7 * T) + P)) (c := (fscl (mvZ y (Rat.num (-(mkR u v))) (Rat.den (-(mkR u v)) : Int) (dg y (dg y m)) (dg y (dg y m))) ((Rat.den (-(mkR u v)) : Int) ^ ((((max (dg x n - 1) (dg y m - 1)) - (dg y m - 1) : Nat) : Int)).toNat))) (dg_z (fscl_z (dg_z fun j hj => mvZ_z _ j (by omega))))) (by omega)) (IsZ.mono (L := (max ((7 * T) + P) (max ((7 * T) + P) P))) (isz P ((Rat.den (-(mkR u v)) : Int) ^ ((((max (dg x n - 1) (dg y m - 1)) : Nat) : Int)).toNat)) (by omega)) (M := (max (max ((7 * T) + P) (max ((7 * T) + P) P)) 2 + 1)) (by omega) (by omega) (by omega) (by omega)) rfl rfl rfl) ?_
  refine .nil ?_
  refine mS hTT 6 (.box 28 (crv (max (max ((7 * T) + P) (max ((7 * T) + P) P)) 2 + 1) (dg (fscl (mvZ x (Rat.num (-(mkR u v))) (Rat.den (-(mkR u v)) : Int) (dg x (dg x n)) (dg x (dg x n))) ((Rat.den (-(mkR u v)) : Int) ^ ((((max (dg x n - 1) (dg y m - 1)) - (dg x n - 1) : Nat) : Int)).toNat)) (dg (mvZ x (Rat.num (-(mkR u v))) (Rat.den (-(mkR u v)) : Int) (dg x (dg x n)) (dg x (dg x n))) (dg x (dg x n) + 1))) (dg (fscl (mvZ y (Rat.num (-(mkR u v))) (Rat.den (-(mkR u v)) : Int) (dg y (dg y m)) (dg y (dg y m))) ((Rat.den (-(mkR u v)) : Int) ^ ((((max (dg x n - 1) (dg y m - 1)) - (dg y m - 1) : Nat) : Int)).toNat)) (dg (mvZ y (Rat.num (-(mkR u v))) (Rat.den (-(mkR u v)) : Int) (dg y (dg y m)) (dg y (dg y m))) (dg y (dg y m) + 1))) (ov (nzD ((Rat.den (-(mkR u v)) : Int) ^ ((((max (dg x n - 1) (dg y m - 1)) : Nat) : Int)).toNat)) (fscl (mvZ x (Rat.num (-(mkR u v))) (Rat.den (-(mkR u v)) : Int) (dg x (dg x n)) (dg x (dg x n))) ((Rat.den (-(mkR u v)) : Int) ^ ((((max (dg x n - 1) (dg y m - 1)) - (dg x n - 1) : Nat) : Int)).toNat))) (ov (nzD ((Rat.den (-(mkR u v)) : Int) ^ ((((max (dg x n - 1) (dg y m - 1)) : Nat) : Int)).toNat)) (fscl (mvZ y (Rat.num (-(mkR u v))) (Rat.den (-(mkR u v)) : Int) (dg y (dg y m)) (dg y (dg y m))) ((Rat.den (-(mkR u v)) : Int) ^ ((((max (dg x n - 1) (dg y m - 1)) - (dg y m - 1) : Nat) : Int)).toNat))))) rfl ?_
  refine mNil ?_
  refine tN ?_
  refine cRet ?_
  exact rQ rfl (le_crv (by omega) (ov_zz (nzD_ne _) (dg_z (fscl_z (dg_z fun j hj => mvZ_z _ j (by omega))))) (ov_zz (nzD_ne _) (dg_z (fscl_z (dg_z fun j hj => mvZ_z _ j (by omega))))) shf_z shf_z (fun i => by have h := mv_ov (x := x) (u := (Rat.num (-(mkR u v)))) (y := (Rat.den (-(mkR u v)) : Int)) (n := (dg x n)) (k := (max (dg x n - 1) (dg y m - 1))) hden (by omega) i; rw [mkR_self] at h; rw [dg_dg]; exact h) (fun i => by have h := mv_ov (x := y) (u := (Rat.num (-(mkR u v)))) (y := (Rat.den (-(mkR u v)) : Int)) (n := (dg y m)) (k := (max (dg x n - 1) (dg y m - 1))) hden (by omega) i; rw [mkR_self] at h; rw [dg_dg]; exact h))

theorem aCRebaseQ {a b : Lf} {K L M n m : Nat} {x y : Nat → Int} {q : Rat} (ha : IsP a K n x) (hb : IsP b K m y) (hn : n ≤ 6) (hm : m ≤ 6) (hM : 7 * (K + 4 * (max L 2 + 1) + 9000) + 2 + 5 * (max L 2 + 1) + 1 ≤ M) (hMM : M ≤ 10000000) : ACall Tryz.prog 10 [.one a, .one b, .agg (tn L q)] (.d (.agg (crv M (dg x n) (dg y m) (shf (rc x) (dg x n) (-q)) (shf (rc y) (dg y m) (-q))))) := by
  have h := aCRebase ha hb (ist_tn L q) hn hm hM hMM
  rw [mkR_self] at h
  exact h
end Go.Proofs.YtcnfblffeghboaaGreat

/-
  CURVES, by the machine (3): the plain reckoning's; law12's helps; the law CurveRebases.
-/
set_option linter.unusedVariables false
set_option linter.unusedSimpArgs false
namespace Go.Proofs.YtcnfblffeghboaaGreat
open Go.RowKit

def numF (c : Nat → Rat) : Nat → Int := fun i => (c i).num
theorem numF_z {c : Nat → Rat} {n : Nat} (h : ∀ i, n ≤ i → c i = 0) : ∀ i, n ≤ i → numF c i = 0 := fun i hi => by unfold numF; rw [h i hi]; rfl
theorem lcd_step {q : Nat → Rat} {i : Nat} : (((lcd q i : Nat) : Int) * ((q i).den : Int)) / ((Nat.gcd (Int.natAbs ((lcd q i : Nat) : Int)) (Int.natAbs ((q i).den : Int)) : Nat) : Int) = ((lcd q (i + 1) : Nat) : Int) := by
  show _ = (((lcd q i * (q i).den) / Nat.gcd (lcd q i) (q i).den : Nat) : Int)
  rw [Int.natCast_ediv, Int.natCast_mul]; rfl
theorem lcd_g {q : Nat → Rat} {i : Nat} : ((Nat.gcd (Int.natAbs ((lcd q i : Nat) : Int)) (Int.natAbs ((q i).den : Int)) : Nat) : Int) ≠ 0 := by
  have := Nat.gcd_pos_of_pos_left ((q i).den) (lcd_pos (q := q) i)
  intro e
  have h : Nat.gcd (lcd q i) (q i).den = 0 := Int.ofNat_inj.1 e
  omega
theorem lcd_gd {q : Nat → Rat} {i : Nat} : ((Nat.gcd (Int.natAbs ((lcd q i : Nat) : Int)) (Int.natAbs ((q i).den : Int)) : Nat) : Int) ∣ ((lcd q i : Nat) : Int) * ((q i).den : Int) := Int.dvd_mul_of_dvd_left (Int.ofNat_dvd_left.2 (Nat.gcd_dvd_left _ _))
theorem dg_scl {c : Nat → Rat} {L n : Nat} (h : 0 < L) : dg (fsclQ c (mkR (L : Int) 1)) n = dg c n := dg_same fun i _ => by
  show c i * mkR (L : Int) 1 = 0 ↔ c i = 0
  rw [mkR_int]
  constructor
  · intro e
    rcases Rat.mul_eq_zero.1 e with e | e
    · exact e
    · exact absurd (Rat.intCast_eq_zero_iff.1 e) (by omega)
  · intro e; rw [e]; exact Rat.zero_mul _
set_option maxRecDepth 100000 in
set_option maxHeartbeats 4000000 in
theorem aQTo {a : Lf} {K n : Nat} {c : Nat → Rat} (ha : IsQP a K n c) (hn : n ≤ 1000000 := by decide) (hK : K ≤ 10000000 := by decide) : ACall Tryz.prog 54 [.one a] (.d (.one (prow K n (numF c)))) := by
  obtain ⟨ha, za⟩ := ha
  refine ACall.le (dl (DV.l ha) dl0) AV.le.rfl ?_
  refine acallN hTT 21 [.tmp 2] Tryz.func54 rfl rfl rfl rfl rfl ?_
  refine cSeq ?_
  refine cReg ?_
  refine mV hTT _ rfl ?_
  refine mNil ?_
  refine tN ?_
  refine cSeq ?_
  refine cReg ?_
  refine mV hTT _ rfl ?_
  refine mNil ?_
  refine tN ?_
  refine cSeq ?_
  refine cSeq ?_
  refine AW.wk (wkNil 3 3 26 2 (fun _ _ => .v undef) rfl rfl) ?_
  refine cReg ?_
  refine mV hTT _ rfl ?_
  refine mV hTT (.d (.one (.v (.int .i64 (n : Int))))) rfl ?_
  refine mV hTT _ rfl ?_
  refine mNil ?_
  refine tN ?_
  refine cBlock ?_
  refine cLoop (ι := Nat) (fun (i : Nat) => ⟨21, [(0, .d (.one (.row 4 n (qel K c)))), (5, .d (.one (.row 4 n (qel K c)))), (6, .d (.one (.v (.int .i64 (n : Int))))), (7, .d (.one (.v (.int .i64 ((i : Nat) : Int))))), (3, .own 3)], [(3, .row 26 2 i (zel K (numF c)))]⟩) (fun (i : Nat) => i ≤ n) (fun (i : Nat) => n - i) 0 (Nat.zero_le _) (wk (sl := [(0, .d (.one (.row 4 n (qel K c)))), (5, .d (.one (.row 4 n (qel K c)))), (6, .d (.one (.v (.int .i64 (n : Int))))), (7, .d (.one (.v (.int .i64 ((0 : Nat) : Int))))), (3, .own 3)]) (hp := [(3, .row 26 2 0 (zel K (numF c)))]) rfl ⟨hs rfl, hs rfl, hs rfl, hs rfl, hs rfl, trivial⟩ ⟨ho' rfl (leo_row0), trivial⟩ rfl) ?_
  rintro i hI
  have hi : i ≤ n := hI
  show AW Tryz.prog _ _ ⟨21, [(0, .d (.one (.row 4 n (qel K c)))), (5, .d (.one (.row 4 n (qel K c)))), (6, .d (.one (.v (.int .i64 (n : Int))))), (7, .d (.one (.v (.int .i64 ((i : Nat) : Int))))), (3, .own 3)], [(3, .row 26 2 i (zel K (numF c)))]⟩
  refine cSeq ?_
  refine cReg ?_
  refine mV hTT (.d (.one (.v (.bool (decide (((i : Nat) : Int) < (n : Int))))))) rfl ?_
  refine mNil ?_
  refine tN ?_
  refine cSeq ?_
  refine cCond rfl (fun hc1 => ?_) (fun hc1 => ?_)
  · skip
    refine cSkip ?_
    refine tN ?_
    refine cSeq ?_
    refine cBlock ?_
    refine cSeq ?_
    have hin : i < n := by have h0 := of_decide_eq_true hc1; omega
    refine cReg ?_
    refine mV hTT _ rfl ?_
    refine mV hTT _ rfl ?_
    refine mNil ?_
    refine tN ?_
    refine cReg ?_
    refine mV hTT _ rfl ?_
    refine mV hTT _ rfl ?_
    refine mV hTT _ rfl ?_
    refine mV hTT (.d (.one (.at 4 ((qel K c) i)))) (ixR (el := (qel K c)) (z := ((i : Nat) : Int)) (n := n) rfl rfl rfl rfl rfl rfl (by omega) (by omega)) ?_
    refine mV hTT _ rfl ?_
    refine mV hTT (.d (.agg (rn K (Rat.num (c i))))) rfl ?_
    refine mC0 (aRTo (isr K (Rat.num (c i))) (by omega)) rfl rfl rfl ?_
    refine mB hTT (.d (.one (.row 2 1 (fun i' j' => ((zn K (Rat.num (c i)))[i' * 2 + j']?).getD (.v undef))))) rfl ?_
    refine mA hTT (id := 3) (n := i) (m := 1) (el := (zel K (numF c))) (el2 := (fun i' j' => ((zn K (Rat.num (c i)))[i' * 2 + j']?).getD (.v undef))) rfl rfl rfl (by show (i + 1) * 32 ≤ 140737488355328; omega) (by omega) rfl rfl rfl rfl rfl rfl rfl rfl rfl rfl ?_
    refine mV hTT _ rfl ?_
    refine mNil ?_
    refine bN ?_
    refine tN ?_
    refine cReg ?_
    refine mV hTT (.d (.one (.v (.int .i64 (IntKind.i64.wrap (((i : Nat) : Int) + 1)))))) rfl ?_
    refine mV hTT _ rfl ?_
    refine mNil ?_
    exact ⟨(i + 1), by omega, by omega, wk (sl := [(0, .d (.one (.row 4 n (qel K c)))), (5, .d (.one (.row 4 n (qel K c)))), (6, .d (.one (.v (.int .i64 (n : Int))))), (7, .d (.one (.v (.int .i64 (((i + 1) : Nat) : Int))))), (3, .own 3)]) (hp := [(3, .row 26 2 (i + 1) (zel K (numF c)))]) rfl ⟨hs rfl, hs rfl, hs rfl, hs' rfl (le_int (inc64 (by omega))), hs rfl, trivial⟩ ⟨ho' rfl (app_z rfl (Nat.le_refl _) (Nat.le_refl _) rfl (fun _ _ => rfl)), trivial⟩ rfl⟩
  · skip
    refine cExit ?_
    refine tE ?_
    refine tE ?_
    refine bE ?_
    refine tN ?_
    refine cSeq ?_
    have hie : n = i := by have h0 := of_decide_eq_false hc1; omega
    subst hie
    refine AW.wk (wkRow 3 rfl) ?_
    refine cReg ?_
    refine mV hTT _ rfl ?_
    refine mV hTT _ rfl ?_
    refine mNil ?_
    refine tN ?_
    refine cRet ?_
    exact rQ rfl (AV.le.rfl)

set_option maxRecDepth 100000 in
set_option maxHeartbeats 4000000 in
theorem aRToR {a : List Lf} {K : Nat} {q : Rat} (hq : IsQ a K q) (hK : K ≤ 10000000 := by decide) : ACall Tryz.prog 15 [.agg a] (.d (.agg (tn K q))) := by
  refine ACall.le (dl (DV.g hq) dl0) AV.le.rfl ?_
  refine acallN hTT 10 [.cell 2 30] Tryz.func15 rfl rfl rfl rfl rfl ?_
  refine cSeq ?_
  refine cReg ?_
  refine mN hTT (.box 44 (qn K q)) rfl rfl rfl ?_
  refine mN hTT (.box 30 ([.v (.bool false), .v (.slice none 0 0), .v (.bool false), .v (.slice none 0 0)])) rfl rfl rfl ?_
  refine mNil ?_
  refine tN ?_
  refine cSeq ?_
  refine cDrawK hTT 7 (by kernel_rfl) (by kernel_rfl) (by kernel_rfl) ?_
  refine .cons (OpS.V (.ptr 1 0) rfl) ?_
  refine .cons (OpS.V (.d (.agg (rn K (Rat.num q)))) rfl) ?_
  refine .cons (OpS.C0 (aRTo (isr K (Rat.num q)) (by omega)) rfl rfl rfl) ?_
  refine .cons (OpS.V (.ptr 1 2) rfl) ?_
  refine .cons (OpS.V (.d (.agg (rn K (Rat.den q : Int)))) rfl) ?_
  refine .cons (OpS.C0 (aRTo (isr K (Rat.den q : Int)) (by omega)) rfl rfl rfl) ?_
  refine .cons (OpS.V (.d (.agg (zn K (Rat.num q) ++ zn K (Rat.den q : Int)))) rfl) ?_
  refine .nil ?_
  refine mS hTT 2 (.box 30 (zn K (Rat.num q) ++ zn K (Rat.den q : Int))) rfl ?_
  refine mNil ?_
  refine tN ?_
  refine cRet ?_
  exact rQ rfl (le_tn2 (Nat.le_refl _) (Nat.le_refl _) rfl rfl)

set_option maxRecDepth 100000 in
set_option maxHeartbeats 4000000 in
theorem aWholeQ {a : Lf} {b : List Lf} {K L M n : Nat} {c : Nat → Rat} {z : Int} (ha : IsQP a K n c) (hb : IsR b L z) (hM : K + max L 64 + 66 ≤ M) (hn : n ≤ 1000) (hMM : M ≤ 10000000) : ACall Tryz.prog 55 [.one a, .agg b] (.d (.one (qrow M (dg (fsclQ c (mkR z 1)) n) (fsclQ c (mkR z 1))))) := by
  obtain ⟨ha, za⟩ := ha
  refine ACall.le (dl (DV.l ha) (dl (DV.g hb) dl0)) AV.le.rfl ?_
  refine acallN hTT 10 [.tmp 4] Tryz.func55 rfl rfl rfl rfl rfl ?_
  refine cSeq ?_
  refine cReg ?_
  refine mN hTT (.box 42 (rn L z)) rfl rfl rfl ?_
  refine mV hTT _ rfl ?_
  refine mNil ?_
  refine tN ?_
  refine cSeq ?_
  refine cDrawK hTT 6 (by kernel_rfl) (by kernel_rfl) (by kernel_rfl) ?_
  refine .cons (OpS.V _ rfl) ?_
  refine .cons (OpS.V (.d (.agg (rn L z))) rfl) ?_
  refine .cons (OpS.C0 (aROf (n := 1) (by decide) (by decide)) rfl rfl rfl) ?_
  refine .cons (OpS.C0 (aRMake (isr L z) (isr 64 1) (M := (max L (max 64 64))) (by omega) (by omega)) rfl rfl rfl) ?_
  refine .cons (OpS.C0 (aQScale (isqp (K := K) (c := c) za) (isq (max L (max 64 64)) (mkR z 1)) (M := (max ((K + (max L (max 64 64))) + 1) 64)) (by omega) (by omega) (by omega)) rfl rfl rfl) ?_
  refine .cons (OpS.V _ rfl) ?_
  refine .nil ?_
  refine mNil ?_
  refine tN ?_
  refine cRet ?_
  exact rQ rfl (le_qrow (by omega) rfl (fun _ _ => rfl))

theorem ls_cv {K1 K3 K4 M n1 m1 L : Nat} {p q : Nat → Rat} {x y : Nat → Int} (h3 : K3 ≤ M) (h4 : K4 ≤ M) (h5 : K1 ≤ M) (e4 : ∀ i, i < n1 → x i = cX L p i) (e5 : ∀ i, i < m1 → y i = cX L q i) : ∀ B w cs, LsR B w ([prow K3 n1 x, prow K4 m1 y] ++ zn K1 (L : Int)) cs → LsR B w (cvn M n1 m1 L p q) cs
  | B, w, [a, b, c, d], ⟨k1, k2, k3, k4, k5⟩ => ⟨prow_le h3 e4 _ _ _ k1, prow_le h4 e5 _ _ _ k2, k3, lr_mono h5 _ _ _ k4, k5⟩
theorem le_nrm12 {K1 K2 K3 K4 M n m n1 m1 : Nat} {D : Int} {p q : Nat → Rat} {x y : Nat → Int} (h3 : K3 ≤ M) (h4 : K4 ≤ M) (h5 : K1 ≤ M) (e1 : n1 = dg p n) (e2 : m1 = dg q m) (e3 : D = (crL n m p q : Int)) (e4 : ∀ i, i < n1 → x i = cX (crL n m p q) p i) (e5 : ∀ i, i < m1 → y i = cX (crL n m p q) q i) : AV.le (.d (.agg ([qrow K2 (dg p n) p, qrow K2 (dg q m) q] ++ ([prow K3 n1 x, prow K4 m1 y] ++ zn K1 D)))) (.d (.agg ([qrow K2 (dg p n) p, qrow K2 (dg q m) q] ++ crv M n m p q))) := by
  subst e1; subst e2; subst e3
  exact le_agg (ls_abd (fun _ _ _ h => h) (fun _ _ _ h => h) (ls_cv h3 h4 h5 e4 e5))
set_option maxRecDepth 100000 in
set_option maxHeartbeats 4000000 in
theorem aNormal {K M n m : Nat} {p q : Nat → Rat} (zp : ∀ i, n ≤ i → p i = 0) (zq : ∀ i, m ≤ i → q i = 0) (hn : n ≤ 6) (hm : m ≤ 6) (hK : 64 ≤ K) (hM : 13 * K + 200 ≤ M) (hMM : M ≤ 10000000) : ACall Tryz.prog 25 [.one (qrow K (dg p n) p), .one (qrow K (dg q m) q)] (.d (.agg ([qrow K (dg p n) p, qrow K (dg q m) q] ++ crv M n m p q))) := by
  have hdp := dg_le p n
  have hdq := dg_le q m
  refine acallN hTT 48 [.cell 4 37] Tryz.func25 rfl rfl rfl rfl rfl ?_
  refine cSeq ?_
  refine cReg ?_
  refine mN hTT (.box 37 ([.v (.slice none 0 0), .v (.slice none 0 0), .v (.slice none 0 0), .v (.slice none 0 0), .v (.bool false), .v (.slice none 0 0)])) rfl rfl rfl ?_
  refine mNil ?_
  refine tN ?_
  refine cSeq ?_
  refine cReg ?_
  refine mC0 (aROf (n := 1) (by decide) (by decide)) rfl rfl rfl ?_
  refine mN hTT (.box 42 ([.v (.slice none 0 0), .v (.bool false)])) rfl rfl rfl ?_
  refine mS hTT 5 (.box 42 (rn 64 1)) rfl ?_
  refine mNil ?_
  refine tN ?_
  refine cSeq ?_
  refine cReg ?_
  refine mV hTT _ rfl ?_
  refine mA0 hTT (m := (dg p n)) (el2 := (qel K p)) rfl rfl rfl rfl rfl rfl rfl rfl rfl rfl rfl rfl rfl (by show (dg p n) * 64 ≤ 140737488355328; omega) (by omega) rfl rfl ?_
  refine mV hTT _ rfl ?_
  refine mA hTT (id := 10) (n := (dg p n)) (m := (dg q m)) (el := (qel K p)) (el2 := (qel K q)) rfl rfl rfl (by show ((dg p n) + (dg q m)) * 64 ≤ 140737488355328; omega) (by omega) rfl rfl rfl rfl rfl rfl rfl rfl rfl rfl ?_
  refine mV hTT _ rfl ?_
  refine mNil ?_
  refine tN ?_
  refine cSeq ?_
  refine cSeq ?_
  refine AW.wk (wkRow 10 rfl) ?_
  refine cView 6 (.d (.one (.row 4 (dg p n + dg q m) (qel K (catF (dg p n) p q))))) rfl (le_rleq (rleq_app (rleq (Nat.le_refl _)) (rleq (Nat.le_refl _)))) ?_
  refine cReg ?_
  refine mV hTT _ rfl ?_
  refine mV hTT (.d (.one (.v (.int .i64 ((dg p n + dg q m : Nat) : Int))))) rfl ?_
  refine mV hTT _ rfl ?_
  refine mNil ?_
  refine tN ?_
  refine cBlock ?_
  refine cLoop (ι := Nat) (fun (i : Nat) => ⟨48, [(0, .d (.one (.row 4 (dg p n) (qel K p)))), (1, .d (.one (.row 4 (dg q m) (qel K q)))), (4, .ptr 4 0), (5, .ptr 5 0), (6, .d (.one (.row 4 (dg p n + dg q m) (qel K (catF (dg p n) p q))))), (13, .d (.one (.row 4 (dg p n + dg q m) (qel K (catF (dg p n) p q))))), (14, .d (.one (.v (.int .i64 ((dg p n + dg q m : Nat) : Int))))), (15, .d (.one (.v (.int .i64 ((i : Nat) : Int)))))], [(4, .box 37 ([.v (.slice none 0 0), .v (.slice none 0 0), .v (.slice none 0 0), .v (.slice none 0 0), .v (.bool false), .v (.slice none 0 0)])), (5, .box 42 (rn (64 + i * K) ((lcd (catF (dg p n) p q) i : Nat) : Int)))]⟩) (fun (i : Nat) => i ≤ (dg p n + dg q m)) (fun (i : Nat) => (dg p n + dg q m) - i) 0 (Nat.zero_le _) (wk (sl := [(0, .d (.one (.row 4 (dg p n) (qel K p)))), (1, .d (.one (.row 4 (dg q m) (qel K q)))), (4, .ptr 4 0), (5, .ptr 5 0), (6, .d (.one (.row 4 (dg p n + dg q m) (qel K (catF (dg p n) p q))))), (13, .d (.one (.row 4 (dg p n + dg q m) (qel K (catF (dg p n) p q))))), (14, .d (.one (.v (.int .i64 ((dg p n + dg q m : Nat) : Int))))), (15, .d (.one (.v (.int .i64 ((0 : Nat) : Int)))))]) (hp := [(4, .box 37 ([.v (.slice none 0 0), .v (.slice none 0 0), .v (.slice none 0 0), .v (.slice none 0 0), .v (.bool false), .v (.slice none 0 0)])), (5, .box 42 (rn (64 + 0 * K) ((lcd (catF (dg p n) p q) 0 : Nat) : Int)))]) rfl ⟨hs rfl, hs rfl, hs rfl, hs rfl, hs rfl, hs rfl, hs rfl, hs rfl, trivial⟩ ⟨ho rfl, ho' rfl (leo_rn (by omega) rfl), trivial⟩ rfl) ?_
  rintro i hI
  have hi : i ≤ (dg p n + dg q m) := hI
  show AW Tryz.prog _ _ ⟨48, [(0, .d (.one (.row 4 (dg p n) (qel K p)))), (1, .d (.one (.row 4 (dg q m) (qel K q)))), (4, .ptr 4 0), (5, .ptr 5 0), (6, .d (.one (.row 4 (dg p n + dg q m) (qel K (catF (dg p n) p q))))), (13, .d (.one (.row 4 (dg p n + dg q m) (qel K (catF (dg p n) p q))))), (14, .d (.one (.v (.int .i64 ((dg p n + dg q m : Nat) : Int))))), (15, .d (.one (.v (.int .i64 ((i : Nat) : Int)))))], [(4, .box 37 ([.v (.slice none 0 0), .v (.slice none 0 0), .v (.slice none 0 0), .v (.slice none 0 0), .v (.bool false), .v (.slice none 0 0)])), (5, .box 42 (rn (64 + i * K) ((lcd (catF (dg p n) p q) i : Nat) : Int)))]⟩
  refine cSeq ?_
  refine cReg ?_
  refine mV hTT (.d (.one (.v (.bool (decide (((i : Nat) : Int) < ((dg p n + dg q m : Nat) : Int))))))) rfl ?_
  refine mNil ?_
  refine tN ?_
  refine cSeq ?_
  refine cCond rfl (fun hc1 => ?_) (fun hc1 => ?_)
  · skip
    refine cSkip ?_
    refine tN ?_
    refine cSeq ?_
    refine cBlock ?_
    refine cSeq ?_
    have hin : i < (dg p n + dg q m) := by have h0 := of_decide_eq_true hc1; omega
    have e1 : (i + 1) * K = i * K + K := Nat.succ_mul i K
    have e2 : (i + 1) * K ≤ 12 * K := Nat.mul_le_mul_right K (by omega)
    have hg := lcd_g (q := (catF (dg p n) p q)) (i := i)
    have hgd := lcd_gd (q := (catF (dg p n) p q)) (i := i)
    refine cReg ?_
    refine mV hTT _ rfl ?_
    refine mV hTT _ rfl ?_
    refine mNil ?_
    refine tN ?_
    refine cDrawK hTT 15 (by kernel_rfl) (by kernel_rfl) (by kernel_rfl) ?_
    refine .cons (OpS.V (.d (.agg (rn (64 + i * K) ((lcd (catF (dg p n) p q) i : Nat) : Int)))) rfl) ?_
    refine .cons (OpS.V _ rfl) ?_
    refine .cons (OpS.V _ rfl) ?_
    refine .cons (OpS.V (.d (.one (.at 4 ((qel K (catF (dg p n) p q)) i)))) (ixR (el := (qel K (catF (dg p n) p q))) (z := ((i : Nat) : Int)) (n := (dg p n + dg q m)) rfl rfl rfl rfl rfl rfl (by omega) (by omega))) ?_
    refine .cons (OpS.V _ rfl) ?_
    refine .cons (OpS.V (.d (.agg (rn K (Rat.den ((catF (dg p n) p q) i) : Int)))) rfl) ?_
    refine .cons (OpS.C0 (aRMul (isr (64 + i * K) ((lcd (catF (dg p n) p q) i : Nat) : Int)) (isr K (Rat.den ((catF (dg p n) p q) i) : Int)) (M := ((64 + i * K) + K)) (by omega) (by omega) (by omega)) rfl rfl rfl) ?_
    refine .cons (OpS.V (.d (.agg (rn (64 + i * K) ((lcd (catF (dg p n) p q) i : Nat) : Int)))) rfl) ?_
    refine .cons (OpS.V _ rfl) ?_
    refine .cons (OpS.V _ rfl) ?_
    refine .cons (OpS.V (.d (.one (.at 4 ((qel K (catF (dg p n) p q)) i)))) (ixR (el := (qel K (catF (dg p n) p q))) (z := ((i : Nat) : Int)) (n := (dg p n + dg q m)) rfl rfl rfl rfl rfl rfl (by omega) (by omega))) ?_
    refine .cons (OpS.V _ rfl) ?_
    refine .cons (OpS.V (.d (.agg (rn K (Rat.den ((catF (dg p n) p q) i) : Int)))) rfl) ?_
    refine .cons (OpS.C0 (aRGcd (isr (64 + i * K) ((lcd (catF (dg p n) p q) i : Nat) : Int)) (isr K (Rat.den ((catF (dg p n) p q) i) : Int)) (M := (max (64 + i * K) K)) (by omega) (by omega)) rfl rfl rfl) ?_
    refine .cons (OpS.C0 (aRQuo (isr ((64 + i * K) + K) (((lcd (catF (dg p n) p q) i : Nat) : Int) * (Rat.den ((catF (dg p n) p q) i) : Int))) (isr (max (64 + i * K) K) ((Nat.gcd (Int.natAbs ((lcd (catF (dg p n) p q) i : Nat) : Int)) (Int.natAbs (Rat.den ((catF (dg p n) p q) i) : Int)) : Nat) : Int)) hg hgd (M := ((64 + i * K) + K)) (by omega) (by omega) (by omega)) rfl rfl rfl) ?_
    refine .nil ?_
    refine mS hTT 5 (.box 42 (rn ((64 + i * K) + K) ((((lcd (catF (dg p n) p q) i : Nat) : Int) * (Rat.den ((catF (dg p n) p q) i) : Int)) / ((Nat.gcd (Int.natAbs ((lcd (catF (dg p n) p q) i : Nat) : Int)) (Int.natAbs (Rat.den ((catF (dg p n) p q) i) : Int)) : Nat) : Int)))) rfl ?_
    refine mNil ?_
    refine bN ?_
    refine tN ?_
    refine cReg ?_
    refine mV hTT (.d (.one (.v (.int .i64 (IntKind.i64.wrap (((i : Nat) : Int) + 1)))))) rfl ?_
    refine mV hTT _ rfl ?_
    refine mNil ?_
    exact ⟨(i + 1), by omega, by omega, wk (sl := [(0, .d (.one (.row 4 (dg p n) (qel K p)))), (1, .d (.one (.row 4 (dg q m) (qel K q)))), (4, .ptr 4 0), (5, .ptr 5 0), (6, .d (.one (.row 4 (dg p n + dg q m) (qel K (catF (dg p n) p q))))), (13, .d (.one (.row 4 (dg p n + dg q m) (qel K (catF (dg p n) p q))))), (14, .d (.one (.v (.int .i64 ((dg p n + dg q m : Nat) : Int))))), (15, .d (.one (.v (.int .i64 (((i + 1) : Nat) : Int)))))]) (hp := [(4, .box 37 ([.v (.slice none 0 0), .v (.slice none 0 0), .v (.slice none 0 0), .v (.slice none 0 0), .v (.bool false), .v (.slice none 0 0)])), (5, .box 42 (rn (64 + (i + 1) * K) ((lcd (catF (dg p n) p q) (i + 1) : Nat) : Int)))]) rfl ⟨hs rfl, hs rfl, hs rfl, hs rfl, hs rfl, hs rfl, hs rfl, hs' rfl (le_int (inc64 (by omega))), trivial⟩ ⟨ho rfl, ho' rfl (leo_rn (by omega) lcd_step), trivial⟩ rfl⟩
  · skip
    refine cExit ?_
    refine tE ?_
    refine tE ?_
    refine bE ?_
    refine tN ?_
    refine cSeq ?_
    have hie : (dg p n + dg q m) = i := by have h0 := of_decide_eq_false hc1; omega
    subst hie
    have e3 : (dg p n + dg q m) * K ≤ 12 * K := Nat.mul_le_mul_right K (by omega)
    have hs1 := dg_le (fsclQ p (mkR ((lcd (catF (dg p n) p q) (dg p n + dg q m) : Nat) : Int) 1)) (dg p n)
    have hs2 := dg_le (fsclQ q (mkR ((lcd (catF (dg p n) p q) (dg p n + dg q m) : Nat) : Int) 1)) (dg q m)
    refine cDrawK hTT 14 (by kernel_rfl) (by kernel_rfl) (by kernel_rfl) ?_
    refine .cons (OpS.V _ rfl) ?_
    refine .cons (OpS.V _ rfl) ?_
    refine .cons (OpS.V _ rfl) ?_
    refine .cons (OpS.V (.d (.agg (rn (64 + (dg p n + dg q m) * K) ((lcd (catF (dg p n) p q) (dg p n + dg q m) : Nat) : Int)))) rfl) ?_
    refine .cons (OpS.C0 (aWholeQ (isqp (K := K) (c := p) (dg_z zp)) (isr (64 + (dg p n + dg q m) * K) ((lcd (catF (dg p n) p q) (dg p n + dg q m) : Nat) : Int)) (M := (K + max (64 + (dg p n + dg q m) * K) 64 + 66)) (Nat.le_refl _) (by omega) (by omega)) rfl rfl rfl) ?_
    refine .cons (OpS.C0 (aQTo (isqp (K := (K + max (64 + (dg p n + dg q m) * K) 64 + 66)) (c := (fsclQ p (mkR ((lcd (catF (dg p n) p q) (dg p n + dg q m) : Nat) : Int) 1))) (dg_z (fsclQ_z (dg_z zp)))) (by omega) (by omega)) rfl rfl rfl) ?_
    refine .cons (OpS.V _ rfl) ?_
    refine .cons (OpS.V (.d (.agg (rn (64 + (dg p n + dg q m) * K) ((lcd (catF (dg p n) p q) (dg p n + dg q m) : Nat) : Int)))) rfl) ?_
    refine .cons (OpS.C0 (aWholeQ (isqp (K := K) (c := q) (dg_z zq)) (isr (64 + (dg p n + dg q m) * K) ((lcd (catF (dg p n) p q) (dg p n + dg q m) : Nat) : Int)) (M := (K + max (64 + (dg p n + dg q m) * K) 64 + 66)) (Nat.le_refl _) (by omega) (by omega)) rfl rfl rfl) ?_
    refine .cons (OpS.C0 (aQTo (isqp (K := (K + max (64 + (dg p n + dg q m) * K) 64 + 66)) (c := (fsclQ q (mkR ((lcd (catF (dg p n) p q) (dg p n + dg q m) : Nat) : Int) 1))) (dg_z (fsclQ_z (dg_z zq)))) (by omega) (by omega)) rfl rfl rfl) ?_
    refine .cons (OpS.V (.d (.agg (rn (64 + (dg p n + dg q m) * K) ((lcd (catF (dg p n) p q) (dg p n + dg q m) : Nat) : Int)))) rfl) ?_
    refine .cons (OpS.C0 (aRTo (isr (64 + (dg p n + dg q m) * K) ((lcd (catF (dg p n) p q) (dg p n + dg q m) : Nat) : Int)) (by omega)) rfl rfl rfl) ?_
    refine .cons (OpS.V (.d (.agg ([.row 2 (dg (fsclQ p (mkR ((lcd (catF (dg p n) p q) (dg p n + dg q m) : Nat) : Int) 1)) (dg p n)) (zel (K + max (64 + (dg p n + dg q m) * K) 64 + 66) (numF (fsclQ p (mkR ((lcd (catF (dg p n) p q) (dg p n + dg q m) : Nat) : Int) 1))))] ++ [.row 2 (dg (fsclQ q (mkR ((lcd (catF (dg p n) p q) (dg p n + dg q m) : Nat) : Int) 1)) (dg q m)) (zel (K + max (64 + (dg p n + dg q m) * K) 64 + 66) (numF (fsclQ q (mkR ((lcd (catF (dg p n) p q) (dg p n + dg q m) : Nat) : Int) 1))))] ++ zn (64 + (dg p n + dg q m) * K) ((lcd (catF (dg p n) p q) (dg p n + dg q m) : Nat) : Int)))) rfl) ?_
    refine .cons (OpS.V (.d (.agg ([.row 4 (dg p n) (qel K p)] ++ [.row 4 (dg q m) (qel K q)] ++ [.row 2 (dg (fsclQ p (mkR ((lcd (catF (dg p n) p q) (dg p n + dg q m) : Nat) : Int) 1)) (dg p n)) (zel (K + max (64 + (dg p n + dg q m) * K) 64 + 66) (numF (fsclQ p (mkR ((lcd (catF (dg p n) p q) (dg p n + dg q m) : Nat) : Int) 1))))] ++ [.row 2 (dg (fsclQ q (mkR ((lcd (catF (dg p n) p q) (dg p n + dg q m) : Nat) : Int) 1)) (dg q m)) (zel (K + max (64 + (dg p n + dg q m) * K) 64 + 66) (numF (fsclQ q (mkR ((lcd (catF (dg p n) p q) (dg p n + dg q m) : Nat) : Int) 1))))] ++ zn (64 + (dg p n + dg q m) * K) ((lcd (catF (dg p n) p q) (dg p n + dg q m) : Nat) : Int)))) rfl) ?_
    refine .nil ?_
    refine mS hTT 4 (.box 37 ([.row 4 (dg p n) (qel K p)] ++ [.row 4 (dg q m) (qel K q)] ++ [.row 2 (dg (fsclQ p (mkR ((lcd (catF (dg p n) p q) (dg p n + dg q m) : Nat) : Int) 1)) (dg p n)) (zel (K + max (64 + (dg p n + dg q m) * K) 64 + 66) (numF (fsclQ p (mkR ((lcd (catF (dg p n) p q) (dg p n + dg q m) : Nat) : Int) 1))))] ++ [.row 2 (dg (fsclQ q (mkR ((lcd (catF (dg p n) p q) (dg p n + dg q m) : Nat) : Int) 1)) (dg q m)) (zel (K + max (64 + (dg p n + dg q m) * K) 64 + 66) (numF (fsclQ q (mkR ((lcd (catF (dg p n) p q) (dg p n + dg q m) : Nat) : Int) 1))))] ++ zn (64 + (dg p n + dg q m) * K) ((lcd (catF (dg p n) p q) (dg p n + dg q m) : Nat) : Int))) rfl ?_
    refine mNil ?_
    refine tN ?_
    refine cRet ?_
    exact rQ rfl (le_nrm12 (by omega) (by omega) (by omega) (by rw [dg_scl (lcd_pos _), dg_dg]) (by rw [dg_scl (lcd_pos _), dg_dg]) rfl (fun _ _ => rfl) (fun _ _ => rfl))

end Go.Proofs.YtcnfblffeghboaaGreat

/-
  CURVES, by the machine (4): the plain reckoning's Rebase; law12's helps; the law CurveRebases.
-/
set_option linter.unusedVariables false
set_option linter.unusedSimpArgs false
namespace Go.Proofs.YtcnfblffeghboaaGreat
open Go.RowKit

set_option maxRecDepth 100000 in
set_option maxHeartbeats 4000000 in
theorem aBack {a : Lf} {b : List Lf} {n : Nat} {c : Nat → Rat} {r : Rat} (ha : IsQP a 64 n c) (hb : IsQ b 64 r) (hn : n ≤ 6) : ACall Tryz.prog 26 [.one a, .agg b] (.d (.one (qrow (KW n) (dg (shf c n (-r)) n) (shf c n (-r))))) := by
  obtain ⟨ha, za⟩ := ha
  refine ACall.le (dl (DV.l ha) (dl (DV.g hb) dl0)) AV.le.rfl ?_
  refine acallN hTT 29 [.tmp 4] Tryz.func26 rfl rfl rfl rfl rfl ?_
  refine cSeq ?_
  refine cReg ?_
  refine mN hTT (.box 44 (qn 64 r)) rfl rfl rfl ?_
  refine mV hTT _ rfl ?_
  refine mNil ?_
  refine tN ?_
  refine cSeq ?_
  refine cReg ?_
  refine mV hTT _ rfl ?_
  refine mNil ?_
  refine tN ?_
  refine cSeq ?_
  refine cSeq ?_
  refine cReg ?_
  refine mV hTT _ rfl ?_
  refine mV hTT (.d (.one (.v (.int .i64 (n : Int))))) rfl ?_
  refine mV hTT (.d (.one (.v (.int .i64 ((n : Int) - 1))))) (evi (wr64 (by omega) (by omega))) ?_
  refine mV hTT _ rfl ?_
  refine mNil ?_
  refine tN ?_
  refine cBlock ?_
  refine cLoop (ι := Nat) (fun (s : Nat) => ⟨29, [(0, .d (.one (.row 4 n (qel 64 c)))), (3, .ptr 3 0), (5, .d (.one (.row 4 (dg (hvQ c (-r) n s) (s + 1)) (qel (KW s) (hvQ c (-r) n s))))), (6, .d (.one (.v (.int .i64 ((n : Int) - 1 - (s : Int))))))], [(3, .box 44 (qn 64 r))]⟩) (fun (s : Nat) => s ≤ n) (fun (s : Nat) => n - s) 0 (Nat.zero_le _) (wk (sl := [(0, .d (.one (.row 4 n (qel 64 c)))), (3, .ptr 3 0), (5, .d (.one (.row 4 (dg (hvQ c (-r) n 0) (0 + 1)) (qel (KW 0) (hvQ c (-r) n 0))))), (6, .d (.one (.v (.int .i64 ((n : Int) - 1 - ((0 : Nat) : Int))))))]) (hp := [(3, .box 44 (qn 64 r))]) rfl ⟨hs rfl, hs rfl, hs' rfl (nil_qrow' (dg_zero (fun _ => rfl) _)), hs' rfl (le_int (by omega)), trivial⟩ ⟨ho rfl, trivial⟩ rfl) ?_
  rintro s hI
  have hi : s ≤ n := hI
  show AW Tryz.prog _ _ ⟨29, [(0, .d (.one (.row 4 n (qel 64 c)))), (3, .ptr 3 0), (5, .d (.one (.row 4 (dg (hvQ c (-r) n s) (s + 1)) (qel (KW s) (hvQ c (-r) n s))))), (6, .d (.one (.v (.int .i64 ((n : Int) - 1 - (s : Int))))))], [(3, .box 44 (qn 64 r))]⟩
  refine cSeq ?_
  refine cSeq ?_
  refine cReg ?_
  refine mV hTT _ rfl ?_
  refine mV hTT (.d (.one (.v (.bool (decide (((n : Int) - 1 - (s : Int)) ≥ 0)))))) rfl ?_
  refine mNil ?_
  refine tN ?_
  refine cCond rfl (fun hc1 => ?_) (fun hc1 => ?_)
  · skip
    refine cSkip ?_
    refine tN ?_
    refine cSeq ?_
    refine cBlock ?_
    refine cSeq ?_
    have hsd : s < n := by have h0 := of_decide_eq_true hc1; omega
    have hKW := KW_le (s + 1) (by omega)
    obtain ⟨MM, hMM⟩ : ∃ MM, MM = (s + 1 + 1) * (KW s + 64 + 66) := ⟨_, rfl⟩
    have hKs : KW (s + 1) = MM + 70 := by rw [hMM]; rfl
    have hd1 := dg_le (hvQ c (-r) n s) (s + 1)
    have hd2 := dg_le (conv (hvQ c (-r) n s) (linQ (-r) (((1 : Int) : Int) : Rat))) (dg (hvQ c (-r) n s) (s + 1) + 2)
    have hK0 := KW_le s (by omega)
    have hM64 : 130 ≤ MM := by rw [hMM]; exact Nat.le_trans (m := KW s + 64 + 66) (by omega) (Nat.le_mul_of_pos_left _ (by omega))
    have hKp : KW s ≤ MM := by rw [hMM]; exact Nat.le_trans (m := KW s + 64 + 66) (by omega) (Nat.le_mul_of_pos_left _ (by omega))
    refine cView 6 (.d (.one (.v (.int .i64 ((n - 1 - s : Nat) : Int))))) rfl (le_int (by omega)) ?_
    refine cReg ?_
    refine mV hTT (.d (.agg (qn 64 r))) rfl ?_
    refine mC0 (aRNegR (isq 64 r) (by decide)) rfl rfl rfl ?_
    refine mC0 (aROfI (n := 1) (by decide) (by decide)) rfl rfl rfl ?_
    refine mB hTT (.d (.one (.row 4 2 (fun i' j' => ((qn 64 (-r) ++ qn 64 ((1 : Int) : Rat))[i' * 4 + j']?).getD (.v undef))))) rfl ?_
    refine mV hTT _ rfl ?_
    refine mNil ?_
    refine tN ?_
    refine cDrawK hTT 10 (by kernel_rfl) (by kernel_rfl) (by kernel_rfl) ?_
    refine .cons (OpS.V _ rfl) ?_
    refine .cons (OpS.V _ rfl) ?_
    refine .cons (OpS.C0 (aQMul (isqp (K := (KW s)) (c := (hvQ c (-r) n s)) (dg_z fun j hj => hvQ_z s j (by omega))) (show IsQP _ 64 2 (linQ (-r) (((1 : Int) : Int) : Rat)) from isqp2 (M := 64) (N := 64) (q := -r) (r := (((1 : Int) : Int) : Rat)) (by decide) (by decide)) (M := MM) (D := s + 1) (by omega) (by omega) (by rw [hMM]; exact Nat.le_refl _) (by omega) (by omega)) rfl rfl rfl) ?_
    refine .cons (OpS.V _ rfl) ?_
    refine .cons (OpS.V _ rfl) ?_
    refine .cons (OpS.V (.d (.one (.at 4 ((qel 64 c) (n - 1 - s))))) (ixR (el := (qel 64 c)) (z := ((n - 1 - s : Nat) : Int)) (n := n) rfl rfl rfl rfl rfl rfl (by omega) (by omega))) ?_
    refine .cons (OpS.V (.d (.agg (qn 64 (c (n - 1 - s))))) rfl) ?_
    refine .cons (OpS.B _ rfl) ?_
    refine .cons (OpS.C0 (aQAdd (isqp (K := MM) (c := (conv (hvQ c (-r) n s) (linQ (-r) (((1 : Int) : Int) : Rat)))) (dg_z (conv_z0Q (dg_z fun j hj => hvQ_z s j (by omega)) linQ_z))) (show IsQP _ 64 1 (oneQ (c (n - 1 - s))) from isqp1 (M := 64) (q := c (n - 1 - s)) (by decide)) (M := (max (((max MM 64) + 64) + 1) 64)) (by omega) (by omega) (by omega)) rfl rfl rfl) ?_
    refine .cons (OpS.V _ rfl) ?_
    refine .nil ?_
    refine mNil ?_
    refine bN ?_
    refine tN ?_
    refine cReg ?_
    refine mV hTT _ rfl ?_
    refine mV hTT (.d (.one (.v (.int .i64 (IntKind.i64.wrap (((n - 1 - s : Nat) : Int) - 1)))))) rfl ?_
    refine mV hTT _ rfl ?_
    refine mNil ?_
    exact ⟨(s + 1), by omega, by omega, wk (sl := [(0, .d (.one (.row 4 n (qel 64 c)))), (3, .ptr 3 0), (5, .d (.one (.row 4 (dg (hvQ c (-r) n (s + 1)) ((s + 1) + 1)) (qel (KW (s + 1)) (hvQ c (-r) n (s + 1)))))), (6, .d (.one (.v (.int .i64 ((n : Int) - 1 - ((s + 1) : Int))))))]) (hp := [(3, .box 44 (qn 64 r))]) rfl ⟨hs rfl, hs rfl, hs' rfl (le_qrow (by omega) (dg_eq (faddQ_z (dg_z (conv_z0Q (dg_z fun j hj => hvQ_z s j (by omega)) linQ_z)) oneQ_z) (fun j hj => hvQ_z (s + 1) j (by omega))) (fun _ _ => rfl)), hs' rfl (le_int ((wr64 (by omega) (by omega)).trans (by omega))), trivial⟩ ⟨ho rfl, trivial⟩ rfl⟩
  · skip
    refine cExit ?_
    refine tE ?_
    refine tE ?_
    refine bE ?_
    refine tN ?_
    refine cSeq ?_
    refine cReg ?_
    refine mV hTT _ rfl ?_
    refine mV hTT _ rfl ?_
    refine mNil ?_
    refine tN ?_
    refine cRet ?_
    have hie : s = n := by have h0 := of_decide_eq_false hc1; omega
    subst hie
    exact rQ rfl (le_qrow (Nat.le_refl _) (dg_eq (fun j hj => hvQ_z s j (by omega)) (hvQ_z s)) (fun _ _ => rfl))

def KWm (a b : Nat) : Nat := max (KW a) (KW b)
theorem KW3 : ∀ s, s ≤ 3 → 64 ≤ KW s ∧ KW s ≤ 7926 := by decide
theorem qrow_mono {K L n : Nat} {c : Nat → Rat} (h : K ≤ L) : ∀ B w v, LfR B w (qrow K n c) v → LfR B w (qrow L n c) v := row_le (qel_le h fun _ _ => rfl)
set_option maxRecDepth 100000 in
set_option maxHeartbeats 4000000 in
theorem aRebase12 {a b : Lf} {t : List Lf} {K n m : Nat} {x y : Nat → Int} {r : Rat} (ha : IsP a K n x) (hb : IsP b K m y) (ht : IsQ t 64 r) (hK : K ≤ 21) (hn : n ≤ 3) (hm : m ≤ 3) : ACall Tryz.prog 8 [.one a, .one b, .agg t] (.d (.agg ([qrow 7926 (dg (shf (rc x) (dg (rc x) n) (-r)) (dg (rc x) n)) (shf (rc x) (dg (rc x) n) (-r)), qrow 7926 (dg (shf (rc y) (dg (rc y) m) (-r)) (dg (rc y) m)) (shf (rc y) (dg (rc y) m) (-r))] ++ crv 110000 (dg (rc x) n) (dg (rc y) m) (shf (rc x) (dg (rc x) n) (-r)) (shf (rc y) (dg (rc y) m) (-r))))) := by
  replace ha := IsP.mono (L := 21) ha hK
  replace hb := IsP.mono (L := 21) hb hK
  obtain ⟨⟨fa, ha, ea⟩, za⟩ := ha
  obtain ⟨⟨fb, hb, eb⟩, zb⟩ := hb
  refine ACall.le (dl (DV.l ha) (dl (DV.l hb) (dl (DV.g ht) dl0))) AV.le.rfl ?_
  have hdx := dg_le (rc x) n
  have hdy := dg_le (rc y) m
  refine acallN hTT 16 [.cell 6 37] Tryz.func8 rfl rfl rfl rfl rfl ?_
  refine cSeq ?_
  refine cReg ?_
  refine mN hTT (.box 44 (qn 64 r)) rfl rfl rfl ?_
  refine mN hTT (.box 37 ([.v (.slice none 0 0), .v (.slice none 0 0), .v (.slice none 0 0), .v (.slice none 0 0), .v (.bool false), .v (.slice none 0 0)])) rfl rfl rfl ?_
  refine mNil ?_
  refine tN ?_
  refine cSeq ?_
  refine cDrawK hTT 9 (by kernel_rfl) (by kernel_rfl) (by kernel_rfl) ?_
  refine .cons (OpS.V _ rfl) ?_
  refine .cons (OpS.C0 (aQFrom (⟨⟨fa, fun _ _ _ h => h, ea⟩, za⟩ : IsP (arow 21 n fa) 21 n x) (M := 64) (by decide) (by omega) (by decide)) rfl rfl rfl) ?_
  refine .cons (OpS.V (.d (.agg (qn 64 r))) rfl) ?_
  refine .cons (OpS.C0 (aBack (isqp (K := 64) (c := (rc x)) (dg_z (rc_z za))) (isq 64 r) (by omega)) rfl rfl rfl) ?_
  refine .cons (OpS.V _ rfl) ?_
  refine .cons (OpS.C0 (aQFrom (⟨⟨fb, fun _ _ _ h => h, eb⟩, zb⟩ : IsP (arow 21 m fb) 21 m y) (M := 64) (by decide) (by omega) (by decide)) rfl rfl rfl) ?_
  refine .cons (OpS.V (.d (.agg (qn 64 r))) rfl) ?_
  refine .cons (OpS.C0 (aBack (isqp (K := 64) (c := (rc y)) (dg_z (rc_z zb))) (isq 64 r) (by omega)) rfl rfl rfl) ?_
  refine .cons (OpS.C0 (ACall.le (dl (DV.l (qrow_mono (KW3 _ (by omega)).2)) (dl (DV.l (qrow_mono (KW3 _ (by omega)).2)) dl0)) AV.le.rfl (aNormal (K := 7926) (M := 110000) (n := (dg (rc x) n)) (m := (dg (rc y) m)) (p := (shf (rc x) (dg (rc x) n) (-r))) (q := (shf (rc y) (dg (rc y) m) (-r))) shf_z shf_z (by omega) (by omega) (by decide) (by decide) (by decide))) rfl rfl rfl) ?_
  refine .nil ?_
  refine mS hTT 6 (.box 37 ([.row 4 (dg (shf (rc x) (dg (rc x) n) (-r)) (dg (rc x) n)) (qel 7926 (shf (rc x) (dg (rc x) n) (-r)))] ++ [.row 4 (dg (shf (rc y) (dg (rc y) m) (-r)) (dg (rc y) m)) (qel 7926 (shf (rc y) (dg (rc y) m) (-r)))] ++ crv 110000 (dg (rc x) n) (dg (rc y) m) (shf (rc x) (dg (rc x) n) (-r)) (shf (rc y) (dg (rc y) m) (-r)))) rfl ?_
  refine mNil ?_
  refine tN ?_
  refine cRet ?_
  exact rQ rfl (AV.le.rfl)

end Go.Proofs.YtcnfblffeghboaaGreat

/-
  WHAT COMES IN (3): curves. No condition; nothing of the program.
-/
set_option linter.unusedVariables false
set_option linter.unusedSimpArgs false
namespace Go.Proofs.YtcnfblffeghboaaGreat
open Go.RowKit Go.ChangeShapes Go.WideShapes

section
variable {H : Type} {enc : TypeId × Value → H} {P : Program} {w : World}
theorem trod_struct3' {t : TypeId} {f0 f1 f2 : Field} {fuel : Nat} {cs : List Value} {x : DataW H × List MemPlace} (ht : P.underlying t = some (.struct #[f0, f1, f2])) (h : DataW.trod enc P w 0 (fun _ => true) true fuel t cs = some x) :
    ∃ y0 y1 y2 n, DataW.trod enc P w 0 (fun _ => true) true n f0.type ((cs.drop f0.offset).take (P.cellsOf f0.type)) = some y0 ∧
      DataW.trod enc P w 0 (fun _ => true) true n f1.type ((cs.drop f1.offset).take (P.cellsOf f1.type)) = some y1 ∧ DataW.trod enc P w 0 (fun _ => true) true n f2.type ((cs.drop f2.offset).take (P.cellsOf f2.type)) = some y2 := by
  obtain ⟨xs, n, _, rfl, hl, hlen, hf⟩ := DataW.trod_struct ht h
  match xs, hlen with
  | [y0, y1, y2], _ => exact ⟨y0, y1, y2, n, by simpa using hf 0 f0 rfl, by simpa using hf 1 f1 rfl, by simpa using hf 2 f2 rfl⟩
/-- A curve in any form. -/
def can (K : Nat) (n : Nat) (f : Nat → Bool × List Nat) (m : Nat) (g : Nat → Bool × List Nat) (s : Bool) (xs : List Nat) : List Lf := [arow K n f, arow K m g] ++ [.v (.bool s), lr K xs]
theorem am_curvec {t p u e : TypeId} {g0 g1 g2 f0 f1 : Field} {fuel : Nat} {cs : List Value} {x : DataW H × List MemPlace} (hr : P.underlying t = some (.struct #[g0, g1, g2])) (hg : g0.offset = 0 ∧ g1.offset = 1 ∧ g2.offset = 2 ∧ P.cellsOf g0.type = 1 ∧ P.cellsOf g1.type = 1 ∧ P.cellsOf g2.type = 2)
    (u0 : g0.type = p) (u1 : g1.type = p) (u2 : g2.type = u) (hp : P.underlying p = some (.slice u)) (hs : P.underlying u = some (.struct #[f0, f1])) (hCu : P.cellsOf u = 2) (ho : f0.offset = 0 ∧ f1.offset = 1 ∧ P.cellsOf f0.type = 1 ∧ P.cellsOf f1.type = 1)
    (h0 : P.underlying f0.type = some .bool) (h1 : P.underlying f1.type = some (.slice e)) (he : P.underlying e = some (.int .u32)) (hc : P.cellsOf e = 1) (hl : cs.length = 4)
    (h : DataW.trod enc P w 0 (fun _ => true) true fuel t cs = some x) : ∃ n f m g s xs, LsR nb w (can MX n f m g s xs) cs := by
  obtain ⟨y0, y1, y2, q, t0, t1, t2⟩ := trod_struct3' hr h
  obtain ⟨o0, o1, o2, k0, k1, k2⟩ := hg
  match cs, hl with
  | [c0, c1, c2, c3], _ =>
    rw [o0, k0, u0] at t0
    rw [o1, k1, u1] at t1
    rw [o2, k2, u2] at t2
    obtain ⟨v0, n, f, e0, r0⟩ := am_pol hp hs hCu ho h0 h1 he hc t0
    obtain ⟨v1, m, g, e1, r1⟩ := am_pol hp hs hCu ho h0 h1 he hc t1
    obtain ⟨s, xs, v2, e2, r2⟩ := am_intc hs ho h0 h1 he hc rfl t2
    simp at e0 e1 e2
    obtain ⟨rfl, rfl⟩ := e2
    subst e0; subst e1
    exact ⟨n, f, m, g, s, xs, r0, r1, ⟨rfl, rfl⟩, r2, trivial⟩
theorem am_curve {r : Reach} {b0 : Nat} {t p u e : TypeId} {g0 g1 g2 f0 f1 : Field} {v : Value} {d : DataW H} {pl : List MemPlace} (hr : P.underlying t = some (.struct #[g0, g1, g2])) (hC : P.cellsOf t = 4) (hg : g0.offset = 0 ∧ g1.offset = 1 ∧ g2.offset = 2 ∧ P.cellsOf g0.type = 1 ∧ P.cellsOf g1.type = 1 ∧ P.cellsOf g2.type = 2)
    (u0 : g0.type = p) (u1 : g1.type = p) (u2 : g2.type = u) (hp : P.underlying p = some (.slice u)) (hs : P.underlying u = some (.struct #[f0, f1])) (hCu : P.cellsOf u = 2) (ho : f0.offset = 0 ∧ f1.offset = 1 ∧ P.cellsOf f0.type = 1 ∧ P.cellsOf f1.type = 1)
    (h0 : P.underlying f0.type = some .bool) (h1 : P.underlying f1.type = some (.slice e)) (he : P.underlying e = some (.int .u32)) (hc : P.cellsOf e = 1)
    (hv : Value.okWide P w r b0 t v) (h : DataW.Trod enc P w 0 (fun _ => true) true t v d pl) : ∃ n f m g s xs, DR nb w (.agg (can MX n f m g s xs)) v := by
  obtain ⟨cs, rfl, hsz⟩ := okWide_struct hr hv
  obtain ⟨fuel, hf⟩ := h
  have hcs : (Value.agg cs).cells.toList = cs.toList := by simp [Value.cells]
  rw [hcs] at hf
  obtain ⟨n, f, m, g, s, xs, hx⟩ := am_curvec hr hg u0 u1 u2 hp hs hCu ho h0 h1 he hc (by simpa using hsz.trans hC) hf
  exact ⟨n, f, m, g, s, xs, cs.toList, by simp, hx⟩
end
end Go.Proofs.YtcnfblffeghboaaGreat

/-
  CURVES, by the machine (5): law12's helps; the law CurveRebases.
-/
set_option linter.unusedVariables false
set_option linter.unusedSimpArgs false
namespace Go.Proofs.YtcnfblffeghboaaGreat
open Go.RowKit

set_option maxRecDepth 100000 in
set_option maxHeartbeats 4000000 in
theorem aCut12 {K n m k l : Nat} {f g : Nat → Bool × List Nat} {s : Bool} {xs : List Nat} (hk : k ≤ 1000) (hl : l ≤ 1000) (hK : K ≤ 9223372036854775807) : ACall Tryz.prog 5 [.agg (can K n f m g s xs), .one (.v (.int .i64 (k : Int))), .one (.v (.int .i64 (l : Int)))] (.d (.agg (can l (min n k) (cutf l f) (min m k) (cutf l g) s (xs.take l)))) := by
  refine acallN hTT 22 [.cell 6 28] Tryz.func5 rfl rfl rfl rfl rfl ?_
  refine cSeq ?_
  refine cReg ?_
  refine mN hTT (.box 28 ([.row 2 n (ael K f)] ++ [.row 2 m (ael K g)] ++ [.v (.bool s), lr K xs])) rfl rfl rfl ?_
  refine mN hTT (.box 28 ([.v (.slice none 0 0), .v (.slice none 0 0), .v (.bool false), .v (.slice none 0 0)])) rfl rfl rfl ?_
  refine mNil ?_
  refine tN ?_
  refine cSeq ?_
  refine cDrawK hTT 15 (by kernel_rfl) (by kernel_rfl) (by kernel_rfl) ?_
  refine .cons (OpS.V (.ptr 3 0) rfl) ?_
  refine .cons (OpS.V (.d (.one (.row 2 n (ael K f)))) rfl) ?_
  refine .cons (OpS.V _ rfl) ?_
  refine .cons (OpS.V _ rfl) ?_
  refine .cons (OpS.C0 (aKPoly (K := K) (n := n) (m := k) (k := l) (f := f) (by omega) (by omega) (by omega)) rfl rfl rfl) ?_
  refine .cons (OpS.V (.ptr 3 1) rfl) ?_
  refine .cons (OpS.V (.d (.one (.row 2 m (ael K g)))) rfl) ?_
  refine .cons (OpS.V _ rfl) ?_
  refine .cons (OpS.V _ rfl) ?_
  refine .cons (OpS.C0 (aKPoly (K := K) (n := m) (m := k) (k := l) (f := g) (by omega) (by omega) (by omega)) rfl rfl rfl) ?_
  refine .cons (OpS.V (.ptr 3 2) rfl) ?_
  refine .cons (OpS.V (.d (.agg ([.v (.bool s), lr K xs]))) rfl) ?_
  refine .cons (OpS.V _ rfl) ?_
  refine .cons (OpS.C0 (aKInt (K := K) (k := l) (s := s) (xs := xs) (by omega) (by omega)) rfl rfl rfl) ?_
  refine .cons (OpS.V (.d (.agg ([.row 2 (min n k) (ael l (cutf l f))] ++ [.row 2 (min m k) (ael l (cutf l g))] ++ [.v (.bool s), lr l (xs.take l)]))) rfl) ?_
  refine .nil ?_
  refine mS hTT 6 (.box 28 ([.row 2 (min n k) (ael l (cutf l f))] ++ [.row 2 (min m k) (ael l (cutf l g))] ++ [.v (.bool s), lr l (xs.take l)])) rfl ?_
  refine mNil ?_
  refine tN ?_
  refine cRet ?_
  exact rQ rfl (AV.le.rfl)

set_option maxRecDepth 100000 in
set_option maxHeartbeats 4000000 in
theorem aIs12 {K L J n m n1 m1 : Nat} {p q p1 q1 : Nat → Rat} (hn : n ≤ 1000000) (hm : m ≤ 1000000) (hK : K ≤ 100000000) (hL : L ≤ 100000000) : ACall Tryz.prog 7 [.agg ([qrow J n1 p1, qrow J m1 q1] ++ crv K n m p q), .agg (crv L n m p q)] (.d (.one (.v (.bool true)))) := by
  refine acallN hTT 9 [.tmp 4] Tryz.func7 rfl rfl rfl rfl rfl ?_
  refine cSeq ?_
  refine cReg ?_
  refine mN hTT (.box 37 ([.row 4 n1 (qel J p1)] ++ [.row 4 m1 (qel J q1)] ++ crv K n m p q)) rfl rfl rfl ?_
  refine mN hTT (.box 28 (crv L n m p q)) rfl rfl rfl ?_
  refine mV hTT _ rfl ?_
  refine mNil ?_
  refine tN ?_
  refine cSeq ?_
  refine cReg ?_
  refine mV hTT (.ptr 2 2) rfl ?_
  refine mV hTT (.d (.agg (crv K n m p q))) rfl ?_
  refine mV hTT (.d (.agg (crv L n m p q))) rfl ?_
  refine mC0 (aSameCurve (K := K) (L := L) (n := n) (m := m) (p := p) (q := q) (by omega) (by omega) (by omega) (by omega)) rfl rfl rfl ?_
  refine mV hTT _ rfl ?_
  refine mNil ?_
  refine tN ?_
  refine cRet ?_
  exact rQ rfl (AV.le.rfl)

theorem isi_01 : True := trivial
set_option maxRecDepth 100000 in
set_option maxHeartbeats 4000000 in
theorem aWakes12 : ACall Tryz.prog 11 [] (.d (.one (.v (.bool true)))) := by
  refine acallN hTT 24 [.tmp 0] Tryz.func11 rfl rfl rfl rfl rfl ?_
  refine cSeq ?_
  refine cReg ?_
  refine mV hTT _ rfl ?_
  refine mNil ?_
  refine tN ?_
  refine cSeq ?_
  refine cReg ?_
  refine mB hTT (.d (.one (.row 1 2 (fun i' j' => (([.v (.int .i64 0), .v (.int .i64 1)])[i' * 1 + j']?).getD (.v undef))))) rfl ?_
  refine mC0 (aPOf (isi_lit (l := [0, 1]) (n := 2) rfl (fun i hi => match i, hi with | 0, _ => rfl | 1, _ => rfl)) (by decide) (by omega)) rfl rfl rfl ?_
  refine mC0 (aROfR (n := 1) (d := 2) (by decide) (by decide) (by decide) (by decide)) rfl rfl rfl ?_
  refine mC0 (aRToR (isq 64 (mkR 1 2)) (by decide)) rfl rfl rfl ?_
  refine mC0 (aCRebaseQ (isp (K := 2) (c := (lst [0, 1])) (dg_z lst_z)) (IsP.mono (L := 2) isp_nil (by decide)) (L := 64) (q := (mkR 1 2)) (M := 65162) (Nat.le_trans (dg_le _ _) (by decide)) (by decide) (by decide) (by decide)) rfl rfl rfl ?_
  refine mN hTT (.box 28 ([.v (.slice none 0 0), .v (.slice none 0 0), .v (.bool false), .v (.slice none 0 0)])) rfl rfl rfl ?_
  refine mS hTT 1 (.box 28 (crv 65162 (dg (lst [0, 1]) (dg (lst [0, 1]) 2)) (dg (fun _ => 0) 0) (shf (rc (lst [0, 1])) (dg (lst [0, 1]) (dg (lst [0, 1]) 2)) (-(mkR 1 2))) (shf (rc (fun _ => 0)) (dg (fun _ => 0) 0) (-(mkR 1 2))))) rfl ?_
  refine mNil ?_
  refine tN ?_
  refine cSeq ?_
  refine cDrawK hTT 18 (by kernel_rfl) (by kernel_rfl) (by kernel_rfl) ?_
  refine .cons (OpS.B _ rfl) ?_
  refine .cons (OpS.C0 (aQOf (isi_lit (l := [-1, 2]) (n := 2) rfl (fun i hi => match i, hi with | 0, _ => rfl | 1, _ => rfl)) (by decide) (by omega)) rfl rfl rfl) ?_
  refine .cons (OpS.V (.ptr 1 0) rfl) ?_
  refine .cons (OpS.V (.d (.one (.row 2 (dg (shf (rc (lst [0, 1])) (dg (lst [0, 1]) (dg (lst [0, 1]) 2)) (-(mkR 1 2))) (dg (lst [0, 1]) (dg (lst [0, 1]) 2))) (zel 65162 (cX (crL (dg (lst [0, 1]) (dg (lst [0, 1]) 2)) (dg (fun _ => 0) 0) (shf (rc (lst [0, 1])) (dg (lst [0, 1]) (dg (lst [0, 1]) 2)) (-(mkR 1 2))) (shf (rc (fun _ => 0)) (dg (fun _ => 0) 0) (-(mkR 1 2)))) (shf (rc (lst [0, 1])) (dg (lst [0, 1]) (dg (lst [0, 1]) 2)) (-(mkR 1 2)))))))) rfl) ?_
  refine .cons (OpS.C0 (ACall.le (dl (dle (le_qrow (Nat.le_refl 64) (by decide +kernel) (by decide +kernel))) (dl DV.same dl0)) AV.le.rfl (aQSame (K := 64) (L := 65162) (n := (dg (shf (rc (lst [0, 1])) (dg (lst [0, 1]) (dg (lst [0, 1]) 2)) (-(mkR 1 2))) (dg (lst [0, 1]) (dg (lst [0, 1]) 2)))) (c := (cX (crL (dg (lst [0, 1]) (dg (lst [0, 1]) 2)) (dg (fun _ => 0) 0) (shf (rc (lst [0, 1])) (dg (lst [0, 1]) (dg (lst [0, 1]) 2)) (-(mkR 1 2))) (shf (rc (fun _ => 0)) (dg (fun _ => 0) 0) (-(mkR 1 2)))) (shf (rc (lst [0, 1])) (dg (lst [0, 1]) (dg (lst [0, 1]) 2)) (-(mkR 1 2))))) (fun _ _ _ h => h) (fun _ _ _ h => h) (Nat.le_trans (dg_le _ _) (Nat.le_trans (dg_le _ _) (by decide))) (by decide) (by decide))) rfl rfl rfl) ?_
  refine .cons (OpS.V _ rfl) ?_
  refine .cons (OpS.V (.ptr 1 1) rfl) ?_
  refine .cons (OpS.V (.d (.one (.row 2 (dg (shf (rc (fun _ => 0)) (dg (fun _ => 0) 0) (-(mkR 1 2))) (dg (fun _ => 0) 0)) (zel 65162 (cX (crL (dg (lst [0, 1]) (dg (lst [0, 1]) 2)) (dg (fun _ => 0) 0) (shf (rc (lst [0, 1])) (dg (lst [0, 1]) (dg (lst [0, 1]) 2)) (-(mkR 1 2))) (shf (rc (fun _ => 0)) (dg (fun _ => 0) 0) (-(mkR 1 2)))) (shf (rc (fun _ => 0)) (dg (fun _ => 0) 0) (-(mkR 1 2)))))))) rfl) ?_
  refine .cons (OpS.V (.d (.one (.v (.int .i64 ((dg (shf (rc (fun _ => 0)) (dg (fun _ => 0) 0) (-(mkR 1 2))) (dg (fun _ => 0) 0) : Nat) : Int))))) rfl) ?_
  refine .cons (OpS.V (.d (.one (.v (.bool true)))) (evb (by decide +kernel))) ?_
  refine .cons (OpS.V _ rfl) ?_
  refine .cons (OpS.V _ rfl) ?_
  refine .cons (OpS.C0 (aROf (n := 2) (by decide) (by decide)) rfl rfl rfl) ?_
  refine .cons (OpS.V (.ptr 1 2) rfl) ?_
  refine .cons (OpS.V (.d (.agg (zn 65162 ((crL (dg (lst [0, 1]) (dg (lst [0, 1]) 2)) (dg (fun _ => 0) 0) (shf (rc (lst [0, 1])) (dg (lst [0, 1]) (dg (lst [0, 1]) 2)) (-(mkR 1 2))) (shf (rc (fun _ => 0)) (dg (fun _ => 0) 0) (-(mkR 1 2)))) : Int)))) rfl) ?_
  refine .cons (OpS.C0 (aRSame (IsR.eq (isr 64 2) (by decide +kernel)) (isn 65162 ((crL (dg (lst [0, 1]) (dg (lst [0, 1]) 2)) (dg (fun _ => 0) 0) (shf (rc (lst [0, 1])) (dg (lst [0, 1]) (dg (lst [0, 1]) 2)) (-(mkR 1 2))) (shf (rc (fun _ => 0)) (dg (fun _ => 0) 0) (-(mkR 1 2)))) : Int)) (by decide) (by decide)) rfl rfl rfl) ?_
  refine .cons (OpS.V _ rfl) ?_
  refine .cons (OpS.V _ rfl) ?_
  refine .nil ?_
  refine mNil ?_
  refine tN ?_
  refine cRet ?_
  exact rQ rfl (AV.le.rfl)

set_option maxRecDepth 100000 in
set_option maxHeartbeats 4000000 in
theorem aCurveRebases {K n m K2 : Nat} {f j : Nat → Bool × List Nat} {s : Bool} {xs : List Nat} {s2 t2 : Bool} {xs2 ys2 : List Nat} (hK : K ≤ 9223372036854775807) (hK2 : K2 ≤ 9223372036854775807) : ACall Tryz.prog 3 [.agg (can K n f m j s xs), .agg (tan K2 s2 xs2 t2 ys2)] (.d (.one (.v (.bool true)))) := by
  refine acallN hTT 26 [.tmp 4] Tryz.func3 rfl rfl rfl rfl rfl ?_
  refine cSeq ?_
  refine cReg ?_
  refine mN hTT (.box 28 ([.row 2 n (ael K f)] ++ [.row 2 m (ael K j)] ++ [.v (.bool s), lr K xs])) rfl rfl rfl ?_
  refine mN hTT (.box 30 ([.v (.bool s2), lr K2 xs2] ++ [.v (.bool t2), lr K2 ys2])) rfl rfl rfl ?_
  refine mV hTT _ rfl ?_
  refine mNil ?_
  refine tN ?_
  refine cSeq ?_
  refine cDrawK hTT 4 (by kernel_rfl) (by kernel_rfl) (by kernel_rfl) ?_
  refine .cons (OpS.V (.d (.agg ([.row 2 n (ael K f)] ++ [.row 2 m (ael K j)] ++ [.v (.bool s), lr K xs]))) rfl) ?_
  refine .cons (OpS.C0 (aCut12 (K := K) (n := n) (m := m) (k := 3) (l := 2) (f := f) (g := j) (s := s) (xs := xs) (by decide) (by decide) (by omega)) rfl rfl rfl) ?_
  refine .cons (OpS.V (.d (.agg ([.v (.bool s2), lr K2 xs2] ++ [.v (.bool t2), lr K2 ys2]))) rfl) ?_
  refine .cons (OpS.C0 (aKRat (K := K2) (k := 1) (s := s2) (t := t2) (xs := xs2) (ys := ys2) (by omega) (by omega)) rfl rfl rfl) ?_
  refine .nil ?_
  refine mS hTT 2 (.box 28 ([.row 2 (min n 3) (ael 2 (cutf 2 f))] ++ [.row 2 (min m 3) (ael 2 (cutf 2 j))] ++ [.v (.bool s), lr 2 (xs.take 2)])) rfl ?_
  refine mS hTT 3 (.box 30 ([.v (.bool s2), lr 1 (xs2.take 1)] ++ [.v (.bool t2), lr 1 (ys2.take 1)])) rfl ?_
  refine mNil ?_
  refine tN ?_
  refine cSeq ?_
  have h1 := dg_le (rc (cfz (min n 3) (cutf 2 f))) (min n 3)
  have h2 := dg_le (rc (cfz (min m 3) (cutf 2 j))) (min m 3)
  have h3 := dg_le (cfz (min n 3) (cutf 2 f)) (min n 3)
  have h4 := dg_le (cfz (min m 3) (cutf 2 j)) (min m 3)
  refine cDrawK hTT 18 (by kernel_rfl) (by kernel_rfl) (by kernel_rfl) ?_
  refine .cons (OpS.V (.ptr 2 0) rfl) ?_
  refine .cons (OpS.V (.d (.one (.row 2 (min n 3) (ael 2 (cutf 2 f))))) rfl) ?_
  refine .cons (OpS.V (.ptr 2 1) rfl) ?_
  refine .cons (OpS.V (.d (.one (.row 2 (min m 3) (ael 2 (cutf 2 j))))) rfl) ?_
  refine .cons (OpS.V (.d (.agg ([.v (.bool s2), lr 1 (xs2.take 1)] ++ [.v (.bool t2), lr 1 (ys2.take 1)]))) rfl) ?_
  refine .cons (OpS.C0 (aRFromR (⟨s2, (xs2.take 1), t2, (ys2.take 1), fun _ _ _ h => h, rfl, rfl⟩ : IsT ([.v (.bool s2), lr 1 (xs2.take 1)] ++ [.v (.bool t2), lr 1 (ys2.take 1)]) 1 (zv s2 (val (xs2.take 1))) (zv t2 (val (ys2.take 1)))) (M := 64) (by decide) (by decide)) rfl rfl rfl) ?_
  refine .cons (OpS.C0 (aRebase12 (⟨⟨(cutf 2 f), fun _ _ _ h => h, (fun i hi => (show cfz (min n 3) (cutf 2 f) i = fzv (cutf 2 f) i from if_pos hi).symm)⟩, cfz_z⟩ : IsP (arow 2 (min n 3) (cutf 2 f)) 2 (min n 3) (cfz (min n 3) (cutf 2 f))) (⟨⟨(cutf 2 j), fun _ _ _ h => h, (fun i hi => (show cfz (min m 3) (cutf 2 j) i = fzv (cutf 2 j) i from if_pos hi).symm)⟩, cfz_z⟩ : IsP (arow 2 (min m 3) (cutf 2 j)) 2 (min m 3) (cfz (min m 3) (cutf 2 j))) (isq 64 (mkR (zv s2 (val (xs2.take 1))) (zv t2 (val (ys2.take 1))))) (by decide) (by omega) (by omega)) rfl rfl rfl) ?_
  refine .cons (OpS.V (.ptr 2 0) rfl) ?_
  refine .cons (OpS.V (.d (.one (.row 2 (min n 3) (ael 2 (cutf 2 f))))) rfl) ?_
  refine .cons (OpS.V (.ptr 2 1) rfl) ?_
  refine .cons (OpS.V (.d (.one (.row 2 (min m 3) (ael 2 (cutf 2 j))))) rfl) ?_
  refine .cons (OpS.V (.d (.agg ([.v (.bool s2), lr 1 (xs2.take 1)] ++ [.v (.bool t2), lr 1 (ys2.take 1)]))) rfl) ?_
  refine .cons (OpS.C0 (aCRebase (⟨⟨(cutf 2 f), fun _ _ _ h => h, (fun i hi => (show cfz (min n 3) (cutf 2 f) i = fzv (cutf 2 f) i from if_pos hi).symm)⟩, cfz_z⟩ : IsP (arow 2 (min n 3) (cutf 2 f)) 2 (min n 3) (cfz (min n 3) (cutf 2 f))) (⟨⟨(cutf 2 j), fun _ _ _ h => h, (fun i hi => (show cfz (min m 3) (cutf 2 j) i = fzv (cutf 2 j) i from if_pos hi).symm)⟩, cfz_z⟩ : IsP (arow 2 (min m 3) (cutf 2 j)) 2 (min m 3) (cfz (min m 3) (cutf 2 j))) (⟨s2, (xs2.take 1), t2, (ys2.take 1), fun _ _ _ h => h, rfl, rfl⟩ : IsT ([.v (.bool s2), lr 1 (xs2.take 1)] ++ [.v (.bool t2), lr 1 (ys2.take 1)]) 1 (zv s2 (val (xs2.take 1))) (zv t2 (val (ys2.take 1)))) (M := 63116) (by omega) (by omega) (by decide) (by decide)) rfl rfl rfl) ?_
  refine .cons (OpS.C0 (ACall.le (dl DV.same (dl (dle (le_crv (Nat.le_refl _) shf_z shf_z shf_z shf_z (fun i => by rw [show dg (rc (cfz (min n 3) (cutf 2 f))) (min n 3) = dg (cfz (min n 3) (cutf 2 f)) (min n 3) from dg_cast (min n 3)]) (fun i => by rw [show dg (rc (cfz (min m 3) (cutf 2 j))) (min m 3) = dg (cfz (min m 3) (cutf 2 j)) (min m 3) from dg_cast (min m 3)]))) dl0)) AV.le.rfl (aIs12 (K := 110000) (L := 63116) (J := 7926) (n := (dg (rc (cfz (min n 3) (cutf 2 f))) (min n 3))) (m := (dg (rc (cfz (min m 3) (cutf 2 j))) (min m 3))) (n1 := (dg (shf (rc (cfz (min n 3) (cutf 2 f))) (dg (rc (cfz (min n 3) (cutf 2 f))) (min n 3)) (-(mkR (zv s2 (val (xs2.take 1))) (zv t2 (val (ys2.take 1)))))) (dg (rc (cfz (min n 3) (cutf 2 f))) (min n 3)))) (m1 := (dg (shf (rc (cfz (min m 3) (cutf 2 j))) (dg (rc (cfz (min m 3) (cutf 2 j))) (min m 3)) (-(mkR (zv s2 (val (xs2.take 1))) (zv t2 (val (ys2.take 1)))))) (dg (rc (cfz (min m 3) (cutf 2 j))) (min m 3)))) (p := (shf (rc (cfz (min n 3) (cutf 2 f))) (dg (rc (cfz (min n 3) (cutf 2 f))) (min n 3)) (-(mkR (zv s2 (val (xs2.take 1))) (zv t2 (val (ys2.take 1))))))) (q := (shf (rc (cfz (min m 3) (cutf 2 j))) (dg (rc (cfz (min m 3) (cutf 2 j))) (min m 3)) (-(mkR (zv s2 (val (xs2.take 1))) (zv t2 (val (ys2.take 1))))))) (p1 := (shf (rc (cfz (min n 3) (cutf 2 f))) (dg (rc (cfz (min n 3) (cutf 2 f))) (min n 3)) (-(mkR (zv s2 (val (xs2.take 1))) (zv t2 (val (ys2.take 1))))))) (q1 := (shf (rc (cfz (min m 3) (cutf 2 j))) (dg (rc (cfz (min m 3) (cutf 2 j))) (min m 3)) (-(mkR (zv s2 (val (xs2.take 1))) (zv t2 (val (ys2.take 1))))))) (by omega) (by omega) (by decide) (by decide))) rfl rfl rfl) ?_
  refine .cons (OpS.V _ rfl) ?_
  refine .cons (OpS.C0 (aWakes12) rfl rfl rfl) ?_
  refine .cons (OpS.V _ rfl) ?_
  refine .cons (OpS.V _ rfl) ?_
  refine .nil ?_
  refine mNil ?_
  refine tN ?_
  refine cRet ?_
  exact rQ rfl (AV.le.rfl)

end Go.Proofs.YtcnfblffeghboaaGreat

