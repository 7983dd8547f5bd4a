/-
  THE ABSTRACT MACHINE, 15: rows of numbers, rationals, polynomials: a row is its length and a function that says its coefficients (0 beyond). No condition; nothing of the program.
-/
import Derived.Test.YtkcagkcphobmfaaMn
set_option linter.unusedVariables false
set_option linter.unusedSimpArgs false
namespace Go.Proofs.Ytkcagkcphobmfaa
open Go.RowKit

theorem wr64 {z : Int} (h1 : -9223372036854775808 ≤ z := by omega) (h2 : z ≤ 9223372036854775807 := by omega) : IntKind.i64.wrap z = z := by
  simp [IntKind.wrap, IntKind.bits, IntKind.signed]; omega

/-- Euclid's division by what it is. -/
theorem euc {x y q r : Int} (h : x = y * q + r) (h0 : 0 ≤ r) (h1 : r < y.natAbs) : q = x / y ∧ r = x % y := by
  have hy : y ≠ 0 := by intro e; subst e; simp at h1; omega
  have hr : r = x % y := by
    rw [h, Int.mul_add_emod_self_left]
    rcases Int.lt_or_gt_of_ne hy with h2 | h2
    · rw [← Int.emod_neg]; exact (Int.emod_eq_of_lt h0 (by omega)).symm
    · exact (Int.emod_eq_of_lt h0 (by omega)).symm
  refine ⟨?_, hr⟩
  have := Int.mul_ediv_add_emod x y
  rw [← hr] at this
  have h2 : y * (x / y) = y * q := by omega
  exact (Int.eq_of_mul_eq_mul_left hy h2).symm

/-! ### Normal numbers, as asked for -/
def IsN (ls : List Lf) (K : Nat) (z : Int) : Prop := ∀ B w cs, LsR B w ls cs → LsR B w (zn K z) cs
theorem isn (K : Nat) (z : Int) : IsN (zn K z) K z := fun _ _ _ h => h
theorem isn_nil : IsN [.v (.bool false), .v (.slice none 0 0)] 0 0 := fun _ _ _ h => nil_ls h
theorem IsN.isz {ls : List Lf} {K : Nat} {z : Int} (h : IsN ls K z) : IsZ ls K z := let ⟨s, xs, h1, h2⟩ := Go.Proofs.Ytkcagkcphobmfaa.isz K z; ⟨s, xs, fun B w cs hc => h1 B w cs (h B w cs hc), h2⟩
theorem IsN.mono {ls : List Lf} {K L : Nat} {z : Int} (h : IsN ls K z) (hk : K ≤ L) : IsN ls L z := fun B w cs hc => zn_mono hk _ _ _ (h B w cs hc)

/-! ### Rows -/
theorem row_le {sz n : Nat} {el el' : Nat → Nat → Lf} (h : ∀ i, i < n → ∀ j, j < sz → ∀ B w c, LfR B w (el i j) c → LfR B w (el' i j) c) : ∀ B w c, LfR B w (.row sz n el) c → LfR B w (.row sz n el') c := by
  rintro B w c ⟨a, cap, rfl, h1, h2, h3⟩
  refine ⟨a, cap, rfl, h1, h2, fun i hi => ?_⟩
  obtain ⟨b, off, e, hb, hl, hj⟩ := h3 i hi
  exact ⟨b, off, e, hb, hl, fun j hjs => let ⟨x, hx, hl⟩ := hj j hjs; ⟨x, hx, h i hi j hjs _ _ _ hl⟩⟩
theorem le_row {sz n : Nat} {el el' : Nat → Nat → Lf} (h : ∀ i, i < n → ∀ j, j < sz → ∀ B w c, LfR B w (el i j) c → LfR B w (el' i j) c) : AV.le (.d (.one (.row sz n el))) (.d (.one (.row sz n el'))) := le_one (row_le h)
theorem leo_row {e : TypeId} {sz n : Nat} {el el' : Nat → Nat → Lf} (h : ∀ i, i < n → ∀ j, j < sz → ∀ B w c, LfR B w (el i j) c → LfR B w (el' i j) c) : AO.le (.row e sz n el) (.row e sz n el') := by
  rintro B w0 w v ⟨xs, h1, h2⟩
  exact ⟨xs, h1, fun i j hi hj => let ⟨x, hx, hl⟩ := h2 i j hi hj; ⟨x, hx, h i hi j hj _ _ _ hl⟩⟩

/-- A row of whole numbers: normal; in any form. -/
def zel (K : Nat) (c : Nat → Int) : Nat → Nat → Lf := fun i j => ((zn K (c i))[j]?).getD (.v undef)
def ael (K : Nat) (f : Nat → Bool × List Nat) : Nat → Nat → Lf := fun i j => (([.v (.bool (f i).1), lr K (f i).2] : List Lf)[j]?).getD (.v undef)
def prow (K n : Nat) (c : Nat → Int) : Lf := .row 2 n (zel K c)
def arow (K n : Nat) (f : Nat → Bool × List Nat) : Lf := .row 2 n (ael K f)
def fzv (f : Nat → Bool × List Nat) (i : Nat) : Int := zv (f i).1 (val (f i).2)
/-- What stands there is this row of numbers, whatever its form. -/
def IsP (l : Lf) (K n : Nat) (c : Nat → Int) : Prop := (∃ f, (∀ B w v, LfR B w l v → LfR B w (arow K n f) v) ∧ ∀ i, i < n → fzv f i = c i) ∧ ∀ i, n ≤ i → c i = 0
theorem isp {K n : Nat} {c : Nat → Int} (h : ∀ i, n ≤ i → c i = 0) : IsP (prow K n c) K n c :=
  ⟨⟨fun i => (decide (c i < 0), limbs (c i).natAbs), fun _ _ _ h => h, fun i _ => by unfold fzv; simp only []; rw [val_limbs]; exact zv_natAbs _⟩, h⟩
theorem isp_nil : IsP (.v (.slice none 0 0)) 0 0 (fun _ => 0) := by
  refine ⟨⟨fun _ => (false, []), ?_, fun i hi => absurd hi (Nat.not_lt_zero _)⟩, fun _ _ => rfl⟩
  rintro B w c ⟨rfl, _⟩
  exact ⟨none, 0, rfl, Nat.le_refl _, fun _ => rfl, fun i hi => absurd hi (Nat.not_lt_zero _)⟩
theorem IsP.z {l : Lf} {K n : Nat} {c : Nat → Int} (h : IsP l K n c) : ∀ i, n ≤ i → c i = 0 := h.2
theorem IsP.eq {l : Lf} {K n m : Nat} {c d : Nat → Int} (h : IsP l K n c) (e : n = m) (e' : ∀ i, c i = d i) : IsP l K m d := by
  obtain rfl : c = d := funext e'
  exact e ▸ h

theorem zel_le {K L n : Nat} {c d : Nat → Int} (hk : K ≤ L) (h : ∀ i, i < n → c i = d i) : ∀ i, i < n → ∀ j, j < 2 → ∀ B w v, LfR B w (zel K c i j) v → LfR B w (zel L d i j) v := by
  intro i hi j hj B w v hv
  unfold zel at *
  rw [← h i hi]
  match j, hj with
  | 0, _ => exact hv
  | 1, _ => exact lr_mono hk _ _ _ hv
theorem prow_le {K L n : Nat} {c d : Nat → Int} (hk : K ≤ L) (h : ∀ i, i < n → c i = d i) : ∀ B w v, LfR B w (prow K n c) v → LfR B w (prow L n d) v := row_le (zel_le hk h)
theorem le_prow {K L n m : Nat} {c d : Nat → Int} (hk : K ≤ L) (e : n = m) (h : ∀ i, i < n → c i = d i) : AV.le (.d (.one (prow K n c))) (.d (.one (prow L m d))) := by subst e; exact le_one (prow_le hk h)
theorem leo_prow {e : TypeId} {K L n : Nat} {c d : Nat → Int} (hk : K ≤ L) (h : ∀ i, i < n → c i = d i) : AO.le (.row e 2 n (zel K c)) (.row e 2 n (zel L d)) := leo_row (zel_le hk h)
theorem IsP.mono {l : Lf} {K L n : Nat} {c : Nat → Int} (h : IsP l K n c) (hk : K ≤ L) : IsP l L n c := by
  obtain ⟨⟨f, h1, h2⟩, h3⟩ := h
  refine ⟨⟨f, fun B w v hv => row_le ?_ _ _ _ (h1 B w v hv), h2⟩, h3⟩
  intro i hi j hj B w v hv
  match j, hj with
  | 0, _ => exact hv
  | 1, _ => exact lr_mono hk _ _ _ hv
theorem isa {K n : Nat} {f : Nat → Bool × List Nat} {i : Nat} : IsZ [.v (.bool (f i).1), lr K (f i).2] K (fzv f i) := iszr _ _ _
/-- A row grows by one. -/
theorem app_el {e : TypeId} {sz n m : Nat} {el el2 el' : Nat → Nat → Lf} (hm : m = n + 1) (h1 : ∀ i, i < n → ∀ j, j < sz → ∀ B w v, LfR B w (el i j) v → LfR B w (el' i j) v) (h2 : ∀ j, j < sz → ∀ B w v, LfR B w (el2 0 j) v → LfR B w (el' n j) v) : AO.le (.row e sz (n + 1) (appEl n el el2)) (.row e sz m el') := by
  subst hm
  refine leo_row fun i hi j hj B w v hv => ?_
  unfold appEl at hv
  by_cases hin : i < n
  · rw [show Nat.ble (i + 1) n = true from Nat.ble_eq_true_of_le hin] at hv
    exact h1 i hin j hj _ _ _ hv
  · obtain rfl : i = n := by omega
    rw [show Nat.ble (i + 1) i = false from by rw [← Bool.not_eq_true]; exact fun h => by have := Nat.le_of_ble_eq_true h; omega, Nat.sub_self] at hv
    exact h2 j hj _ _ _ hv
theorem app_z {e : TypeId} {K L M n m : Nat} {z : Int} {c d : Nat → Int} {el2 : Nat → Nat → Lf} (hm : m = n + 1) (hK : K ≤ L) (hM : M ≤ L) (hz : z = d n) (hc : ∀ i, i < n → c i = d i) (h0 : el2 0 0 = .v (.bool (decide (z < 0))) := by rfl) (h1 : el2 0 1 = ln M z.natAbs := by rfl) : AO.le (.row e 2 (n + 1) (appEl n (zel K c) el2)) (.row e 2 m (zel L d)) := by
  refine app_el hm (zel_le hK hc) fun j hj B w v hv => ?_
  unfold zel
  rw [← hz]
  match j, hj with
  | 0, _ => rw [h0] at hv; exact hv
  | 1, _ => rw [h1] at hv; exact lr_mono hM _ _ _ hv
theorem ael_le {K L n : Nat} {f : Nat → Bool × List Nat} (hk : K ≤ L) : ∀ i, i < n → ∀ j, j < 2 → ∀ B w v, LfR B w (ael K f i j) v → LfR B w (ael L f i j) v := by
  intro i hi j hj B w v hv
  match j, hj with
  | 0, _ => exact hv
  | 1, _ => exact lr_mono hk _ _ _ hv
theorem app_a {e : TypeId} {K L M n m : Nat} {f : Nat → Bool × List Nat} {el2 : Nat → Nat → Lf} (hm : m = n + 1) (hK : K ≤ L) (hM : M ≤ L) (h0 : el2 0 0 = .v (.bool (f n).1) := by rfl) (h1 : el2 0 1 = lr M (f n).2 := by rfl) : AO.le (.row e 2 (n + 1) (appEl n (ael K f) el2)) (.row e 2 m (ael L f)) := by
  refine app_el hm (ael_le hK) fun j hj B w v hv => ?_
  match j, hj with
  | 0, _ => rw [h0] at hv; exact hv
  | 1, _ => rw [h1] at hv; exact lr_mono hM _ _ _ hv
/-- One or two numbers written out. -/
theorem isp1 {K M : Nat} {z : Int} {el : Nat → Nat → Lf} (hM : M ≤ K) (h0 : el 0 0 = .v (.bool (decide (z < 0))) := by rfl) (h1 : el 0 1 = ln M z.natAbs := by rfl) : IsP (.row 2 1 el) K 1 (fun i => if i = 0 then z else 0) := by
  have h := isp (K := K) (n := 1) (c := fun i => if i = 0 then z else 0) (fun i hi => if_neg (by omega))
  refine ⟨?_, h.2⟩
  obtain ⟨f, h2, h3⟩ := h.1
  refine ⟨f, fun B w v hv => h2 _ _ _ (row_le ?_ _ _ _ hv), h3⟩
  intro i hi j hj B w v hv
  obtain rfl : i = 0 := by omega
  match j, hj with
  | 0, _ => rw [h0] at hv; exact hv
  | 1, _ => rw [h1] at hv; exact lr_mono hM _ _ _ hv
theorem isp2 {K M N : Nat} {z y : Int} {el : Nat → Nat → Lf} (hM : M ≤ K) (hN : N ≤ K) (h0 : el 0 0 = .v (.bool (decide (z < 0))) := by rfl) (h1 : el 0 1 = ln M z.natAbs := by rfl) (h2 : el 1 0 = .v (.bool (decide (y < 0))) := by rfl) (h3 : el 1 1 = ln N y.natAbs := by rfl) : IsP (.row 2 2 el) K 2 (fun i => if i = 0 then z else if i = 1 then y else 0) := by
  have h := isp (K := K) (n := 2) (c := fun i => if i = 0 then z else if i = 1 then y else 0) (fun i hi => by show (if i = 0 then z else if i = 1 then y else 0) = 0; rw [if_neg (by omega), if_neg (by omega)])
  refine ⟨?_, h.2⟩
  obtain ⟨f, h4, h5⟩ := h.1
  refine ⟨f, fun B w v hv => h4 _ _ _ (row_le ?_ _ _ _ hv), h5⟩
  intro i hi j hj B w v hv
  match i, hi, j, hj with
  | 0, _, 0, _ => rw [h0] at hv; exact hv
  | 0, _, 1, _ => rw [h1] at hv; exact lr_mono hM _ _ _ hv
  | 1, _, 0, _ => rw [h2] at hv; exact hv
  | 1, _, 1, _ => rw [h3] at hv; exact lr_mono hN _ _ _ hv

/-! ### Rationals of the plain reckoning -/
def qn (K : Nat) (q : Rat) : List Lf := rn K q.num ++ rn K (q.den : Int)
def IsQ (ls : List Lf) (K : Nat) (q : Rat) : Prop := ∀ B w cs, LsR B w ls cs → LsR B w (qn K q) cs
theorem isq (K : Nat) (q : Rat) : IsQ (qn K q) K q := fun _ _ _ h => h
theorem qn_mono {K L : Nat} {q : Rat} (h : K ≤ L) : ∀ B w cs, LsR B w (qn K q) cs → LsR B w (qn L q) cs
  | B, w, [a, b, c, d], ⟨h1, h2, h3, h4, h5⟩ => ⟨dr_mono h _ _ _ h1, h2, dr_mono h _ _ _ h3, h4, h5⟩
theorem IsQ.mono {ls : List Lf} {K L : Nat} {q : Rat} (h : IsQ ls K q) (hk : K ≤ L) : IsQ ls L q := fun B w cs hc => qn_mono hk _ _ _ (h B w cs hc)
theorem IsQ.eq {ls : List Lf} {K : Nat} {q r : Rat} (h : IsQ ls K q) (e : q = r) : IsQ ls K r := e ▸ h
theorem le_qn {K L : Nat} {z y : Rat} (h : K ≤ L) (e : z = y) : AV.le (.d (.agg (qn K z))) (.d (.agg (qn L y))) := by subst e; exact le_agg (qn_mono h)
theorem leo_qn {t : TypeId} {K L : Nat} {z y : Rat} (h : K ≤ L) (e : z = y) : AO.le (.box t (qn K z)) (.box t (qn L y)) := by subst e; exact leo_box (qn_mono h)
theorem le_qn2 {K L M : Nat} {n d : Int} {q : Rat} (h1 : K ≤ M) (h2 : L ≤ M) (e1 : n = q.num) (e2 : d = q.den) : AV.le (.d (.agg (rn K n ++ rn L d))) (.d (.agg (qn M q))) := by
  subst e1; subst e2
  refine le_agg fun B w cs h => ?_
  match cs, h with
  | [a, b, c, d], ⟨h1', h2', h3', h4', h5'⟩ => exact ⟨dr_mono h1 _ _ _ h1', h2', dr_mono h2 _ _ _ h3', h4', h5'⟩
def qel (K : Nat) (c : Nat → Rat) : Nat → Nat → Lf := fun i j => ((qn K (c i))[j]?).getD (.v undef)
def qrow (K n : Nat) (c : Nat → Rat) : Lf := .row 4 n (qel K c)
theorem qel_le {K L n : Nat} {c d : Nat → Rat} (hk : K ≤ L) (h : ∀ i, i < n → c i = d i) : ∀ i, i < n → ∀ j, j < 4 → ∀ B w v, LfR B w (qel K c i j) v → LfR B w (qel L d i j) v := by
  intro i hi j hj B w v hv
  unfold qel at *
  rw [← h i hi]
  match j, hj with
  | 0, _ => exact dr_mono hk _ _ _ hv
  | 1, _ => exact hv
  | 2, _ => exact dr_mono hk _ _ _ hv
  | 3, _ => exact hv
def IsQP (l : Lf) (K n : Nat) (c : Nat → Rat) : Prop := (∀ B w v, LfR B w l v → LfR B w (qrow K n c) v) ∧ ∀ i, n ≤ i → c i = 0
theorem isqp {K n : Nat} {c : Nat → Rat} (h : ∀ i, n ≤ i → c i = 0) : IsQP (qrow K n c) K n c := ⟨fun _ _ _ h => h, h⟩
theorem isqp_nil : IsQP (.v (.slice none 0 0)) 0 0 (fun _ => 0) := by
  refine ⟨?_, fun _ _ => rfl⟩
  rintro B w c ⟨rfl, _⟩
  exact ⟨none, 0, rfl, Nat.le_refl _, fun _ => rfl, fun i hi => absurd hi (Nat.not_lt_zero _)⟩
theorem IsQP.mono {l : Lf} {K L n : Nat} {c : Nat → Rat} (h : IsQP l K n c) (hk : K ≤ L) : IsQP l L n c := ⟨fun B w v hv => row_le (qel_le hk fun _ _ => rfl) _ _ _ (h.1 B w v hv), h.2⟩
theorem IsQP.eq {l : Lf} {K n m : Nat} {c d : Nat → Rat} (h : IsQP l K n c) (e : n = m) (e' : ∀ i, c i = d i) : IsQP l K m d := by
  obtain rfl : c = d := funext e'
  exact e ▸ h
theorem le_qrow {K L n m : Nat} {c d : Nat → Rat} (hk : K ≤ L) (e : n = m) (h : ∀ i, i < n → c i = d i) : AV.le (.d (.one (qrow K n c))) (.d (.one (qrow L m d))) := by subst e; exact le_one (row_le (qel_le hk h))
theorem leo_qrow {e : TypeId} {K L n : Nat} {c d : Nat → Rat} (hk : K ≤ L) (h : ∀ i, i < n → c i = d i) : AO.le (.row e 4 n (qel K c)) (.row e 4 n (qel L d)) := leo_row (qel_le hk h)
theorem qn_el {K M : Nat} {q : Rat} {l : Nat → Lf} (hM : M ≤ K) (h0 : l 0 = dn M q.num.natAbs) (h1 : l 1 = .v (.bool (decide (q.num < 0)))) (h2 : l 2 = dn M (q.den : Int).natAbs) (h3 : l 3 = .v (.bool (decide ((q.den : Int) < 0)))) : ∀ j, j < 4 → ∀ B w v, LfR B w (l j) v → LfR B w (((qn K q)[j]?).getD (.v undef)) v := by
  intro j hj B w v hv
  match j, hj with
  | 0, _ => rw [h0] at hv; exact dr_mono hM _ _ _ hv
  | 1, _ => rw [h1] at hv; exact hv
  | 2, _ => rw [h2] at hv; exact dr_mono hM _ _ _ hv
  | 3, _ => rw [h3] at hv; exact hv
theorem app_q {e : TypeId} {K L M n m : Nat} {q : Rat} {c d : Nat → Rat} {el2 : Nat → Nat → Lf} (hm : m = n + 1) (hK : K ≤ L) (hM : M ≤ L) (hz : q = d n) (hc : ∀ i, i < n → c i = d i) (h0 : el2 0 0 = dn M q.num.natAbs := by rfl) (h1 : el2 0 1 = .v (.bool (decide (q.num < 0))) := by rfl) (h2 : el2 0 2 = dn M (q.den : Int).natAbs := by rfl) (h3 : el2 0 3 = .v (.bool (decide ((q.den : Int) < 0))) := by rfl) : AO.le (.row e 4 (n + 1) (appEl n (qel K c) el2)) (.row e 4 m (qel L d)) := by
  refine app_el hm (qel_le hK hc) fun j hj B w v hv => ?_
  unfold qel
  rw [← hz]
  exact qn_el hM h0 h1 h2 h3 j hj B w v hv
theorem isqp1 {K M : Nat} {q : Rat} {el : Nat → Nat → Lf} (hM : M ≤ K) (h0 : el 0 0 = dn M q.num.natAbs := by rfl) (h1 : el 0 1 = .v (.bool (decide (q.num < 0))) := by rfl) (h2 : el 0 2 = dn M (q.den : Int).natAbs := by rfl) (h3 : el 0 3 = .v (.bool (decide ((q.den : Int) < 0))) := by rfl) : IsQP (.row 4 1 el) K 1 (fun i => if i = 0 then q else 0) := by
  refine ⟨row_le fun i hi j hj B w v hv => ?_, fun i hi => if_neg (by omega)⟩
  obtain rfl : i = 0 := by omega
  exact qn_el hM h0 h1 h2 h3 j hj B w v hv
theorem isqp2 {K M N : Nat} {q r : Rat} {el : Nat → Nat → Lf} (hM : M ≤ K) (hN : N ≤ K) (h0 : el 0 0 = dn M q.num.natAbs := by rfl) (h1 : el 0 1 = .v (.bool (decide (q.num < 0))) := by rfl) (h2 : el 0 2 = dn M (q.den : Int).natAbs := by rfl) (h3 : el 0 3 = .v (.bool (decide ((q.den : Int) < 0))) := by rfl)
    (k0 : el 1 0 = dn N r.num.natAbs := by rfl) (k1 : el 1 1 = .v (.bool (decide (r.num < 0))) := by rfl) (k2 : el 1 2 = dn N (r.den : Int).natAbs := by rfl) (k3 : el 1 3 = .v (.bool (decide ((r.den : Int) < 0))) := by rfl) : IsQP (.row 4 2 el) K 2 (fun i => if i = 0 then q else if i = 1 then r else 0) := by
  refine ⟨row_le fun i hi j hj B w v hv => ?_, fun i hi => by show (if i = 0 then q else if i = 1 then r else 0) = 0; rw [if_neg (by omega), if_neg (by omega)]⟩
  match i, hi with
  | 0, _ => exact qn_el hM h0 h1 h2 h3 j hj B w v hv
  | 1, _ => exact qn_el hN k0 k1 k2 k3 j hj B w v hv

/-! ### Rows cut: noughts on top are taken away -/
section
variable {α : Type} [DecidableEq α] [OfNat α 0]
def dg (c : Nat → α) : Nat → Nat
  | 0 => 0
  | n + 1 => if c n = 0 then dg c n else n + 1
theorem dg_le (c : Nat → α) : ∀ n, dg c n ≤ n
  | 0 => Nat.le_refl _
  | n + 1 => by unfold dg; split; exact Nat.le_succ_of_le (dg_le c n); exact Nat.le_refl _
theorem dg_z {c : Nat → α} : ∀ {n : Nat}, (∀ i, n ≤ i → c i = 0) → ∀ i, dg c n ≤ i → c i = 0
  | 0, h, i, hi => h i (Nat.zero_le _)
  | n + 1, h, i, hi => by
    unfold dg at hi
    split at hi
    · rename_i h0
      exact dg_z (n := n) (fun k hk => by rcases Nat.eq_or_lt_of_le hk with e | e; exact e ▸ h0; exact h k e) i hi
    · exact h i hi
theorem dg_ne {c : Nat → α} : ∀ {n : Nat}, dg c n ≠ 0 → c (dg c n - 1) ≠ 0
  | 0, h => absurd rfl h
  | n + 1, h => by
    unfold dg at h ⊢
    split
    · rename_i h0; rw [if_pos h0] at h; exact dg_ne h
    · rename_i h0; exact h0
theorem dg_step {c : Nat → α} {n : Nat} (h : c n = 0) : dg c (n + 1) = dg c n := by
  show (if c n = 0 then dg c n else n + 1) = _
  rw [if_pos h]
theorem dg_stop {c : Nat → α} {n : Nat} (h : n = 0 ∨ c (n - 1) ≠ 0) : dg c n = n := by
  cases n with
  | zero => rfl
  | succ n =>
    rcases h with h | h
    · exact absurd h (Nat.succ_ne_zero _)
    · show (if c n = 0 then dg c n else n + 1) = _
      rw [if_neg (show ¬ c n = 0 from h)]
omit [DecidableEq α] in
theorem dg_uniq {c : Nat → α} {k m : Nat} (h1 : k = 0 ∨ c (k - 1) ≠ 0) (h2 : ∀ i, k ≤ i → c i = 0) (h3 : m = 0 ∨ c (m - 1) ≠ 0) (h4 : ∀ i, m ≤ i → c i = 0) : k = m := by
  rcases Nat.lt_trichotomy k m with h | h | h
  · rcases h3 with h3 | h3
    · omega
    · exact absurd (h2 (m - 1) (by omega)) h3
  · exact h
  · rcases h1 with h1 | h1
    · omega
    · exact absurd (h4 (k - 1) (by omega)) h1
theorem dg_or {c : Nat → α} {n : Nat} : dg c n = 0 ∨ c (dg c n - 1) ≠ 0 := by
  rcases Nat.eq_zero_or_pos (dg c n) with h | h
  · exact Or.inl h
  · exact Or.inr (dg_ne (by omega))
theorem dg_eq {c : Nat → α} {n m : Nat} (h : ∀ i, n ≤ i → c i = 0) (k : ∀ i, m ≤ i → c i = 0) : dg c n = dg c m := dg_uniq dg_or (dg_z h) dg_or (dg_z k)
end
theorem dg_cast {c : Nat → Int} : ∀ n, dg (fun i => ((c i : Int) : Rat)) n = dg c n
  | 0 => rfl
  | n + 1 => by
    unfold dg
    rw [dg_cast n]
    by_cases h : c n = 0
    · rw [if_pos h, if_pos (by rw [h]; rfl)]
    · rw [if_neg h, if_neg (fun e => h (by exact_mod_cast e))]

/-! ### Sums, products -/
section
variable {α : Type} [Add α] [Mul α] [OfNat α 0]
/-- The product's coefficients: of the first m of the left one. -/
def cv (a b : Nat → α) : Nat → Nat → α
  | 0, _ => 0
  | m + 1, j => cv a b m j + (if m ≤ j then a m * b (j - m) else 0)
def conv (a b : Nat → α) (j : Nat) : α := cv a b (j + 1) j
end

end Go.Proofs.Ytkcagkcphobmfaa
