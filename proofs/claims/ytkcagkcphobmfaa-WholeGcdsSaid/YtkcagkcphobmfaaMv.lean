/-
  THE ABSTRACT MACHINE, 17: rows that are made and written, element by element; captured rows; the product's coefficients. No condition; nothing of the program.
-/
import Derived.Test.YtkcagkcphobmfaaMr
set_option linter.unusedVariables false
set_option linter.unusedSimpArgs false
namespace Go.Proofs.Ytkcagkcphobmfaa
open Go.RowKit

/-- Made: all are 0. -/
theorem leo_zero {e : TypeId} {n K : Nat} {c : Nat → Int} (h : ∀ i, i < n → c i = 0) : AO.le (.row e 2 n fun _ j => .v ((([Value.bool false, Value.slice none 0 0] : List Value)[j]?).getD undef)) (.row e 2 n (zel K c)) := by
  refine leo_row fun i hi j hj B w v hv => ?_
  unfold zel
  rw [h i hi]
  match j, hj with
  | 0, _ => exact hv
  | 1, _ => exact nil_lr K (fun _ => none) B w v hv
theorem cell_z {K L : Nat} {z y : Int} (hK : K ≤ L) (e : z = y) : ∀ q, q < 2 → ∀ B w v, LfR B w (((zn K z)[q]?).getD (.v undef)) v → LfR B w (((zn L y)[q]?).getD (.v undef)) v := by
  subst e
  intro q hq B w v hv
  match q, hq with
  | 0, _ => exact hv
  | 1, _ => exact lr_mono hK _ _ _ hv
theorem cell_q {K L : Nat} {z y : Rat} (hK : K ≤ L) (e : z = y) : ∀ q, q < 4 → ∀ B w v, LfR B w (((qn K z)[q]?).getD (.v undef)) v → LfR B w (((qn L y)[q]?).getD (.v undef)) v := by
  subst e
  intro q hq B w v hv
  match q, hq with
  | 0, _ => exact dr_mono hK _ _ _ hv
  | 1, _ => exact hv
  | 2, _ => exact dr_mono hK _ _ _ hv
  | 3, _ => exact hv
/-- One element is written. -/
theorem st_z {e : TypeId} {n i K L M : Nat} {c d : Nat → Int} {z : Int} (hK : K ≤ L) (hM : M ≤ L) (hz : z = d i) (h : ∀ p, p < n → p ≠ i → c p = d p) : AO.le (.row e 2 n fun p q => if p = i then ((zn M z)[q]?).getD (.v undef) else zel K c p q) (.row e 2 n (zel L d)) := by
  refine leo_row fun p hp q hq B w v hv => ?_
  by_cases hpi : p = i
  · subst hpi
    rw [if_pos rfl] at hv
    exact cell_z hM hz q hq _ _ _ hv
  · rw [if_neg hpi] at hv
    unfold zel
    exact cell_z hK (h p hp hpi) q hq _ _ _ hv
/-- Rationals, each of a bound of its own. -/
def qelv (Kf : Nat → Nat) (c : Nat → Rat) : Nat → Nat → Lf := fun i j => ((qn (Kf i) (c i))[j]?).getD (.v undef)
theorem st_q {e : TypeId} {n i M : Nat} {Kf Lf' : Nat → Nat} {c d : Nat → Rat} {z : Rat} (hK : ∀ p, p < n → p ≠ i → Kf p ≤ Lf' p) (hM : M ≤ Lf' i) (hz : z = d i) (h : ∀ p, p < n → p ≠ i → c p = d p) : AO.le (.row e 4 n fun p q => if p = i then ((qn M z)[q]?).getD (.v undef) else qelv Kf c p q) (.row e 4 n (qelv Lf' d)) := by
  refine leo_row fun p hp q hq B w v hv => ?_
  by_cases hpi : p = i
  · subst hpi
    rw [if_pos rfl] at hv
    exact cell_q hM hz q hq _ _ _ hv
  · rw [if_neg hpi] at hv
    exact cell_q (hK p hp hpi) (h p hp hpi) q hq _ _ _ hv
theorem leo_qelv {e : TypeId} {n : Nat} {Kf Lf' : Nat → Nat} {c d : Nat → Rat} (hK : ∀ p, p < n → Kf p ≤ Lf' p) (h : ∀ p, p < n → c p = d p) : AO.le (.row e 4 n (qelv Kf c)) (.row e 4 n (qelv Lf' d)) :=
  leo_row fun p hp q hq B w v hv => cell_q (hK p hp) (h p hp) q hq _ _ _ hv
theorem row_qelv {n K : Nat} {Kf : Nat → Nat} {c d : Nat → Rat} (hK : ∀ p, p < n → Kf p ≤ K) (h : ∀ p, p < n → c p = d p) : ∀ B w v, LfR B w (.row 4 n (qelv Kf c)) v → LfR B w (qrow K n d) v :=
  row_le fun p hp q hq B w v hv => cell_q (hK p hp) (h p hp) q hq _ _ _ hv
/-- A row whose first ones are written; the others are still as they were made. -/
def qpre (K i : Nat) (c : Nat → Rat) (z : Nat → Lf) : Nat → Nat → Lf := fun p q => if p < i then ((qn K (c p))[q]?).getD (.v undef) else z q
theorem st_pre {e : TypeId} {n i K M : Nat} {c : Nat → Rat} {z : Nat → Lf} {q0 : Rat} (hM : M ≤ K) (hz : q0 = c i) : AO.le (.row e 4 n fun p q => if p = i then ((qn M q0)[q]?).getD (.v undef) else qpre K i c z p q) (.row e 4 n (qpre K (i + 1) c z)) := by
  refine leo_row fun p hp q hq B w v hv => ?_
  unfold qpre at *
  by_cases hpi : p = i
  · subst hpi
    rw [if_pos rfl] at hv
    rw [if_pos (by omega)]
    exact cell_q hM hz q hq _ _ _ hv
  · rw [if_neg hpi] at hv
    by_cases hlt : p < i
    · rw [if_pos hlt] at hv; rw [if_pos (by omega)]; exact hv
    · rw [if_neg hlt] at hv; rw [if_neg (by omega)]; exact hv
theorem leo_pre {e : TypeId} {n K : Nat} {Kf : Nat → Nat} {c d : Nat → Rat} {z : Nat → Lf} (hK : ∀ p, p < n → K ≤ Kf p) (h : ∀ p, p < n → c p = d p) : AO.le (.row e 4 n (qpre K n c z)) (.row e 4 n (qelv Kf d)) := by
  refine leo_row fun p hp q hq B w v hv => ?_
  unfold qpre at hv
  rw [if_pos hp] at hv
  exact cell_q (hK p hp) (h p hp) q hq _ _ _ hv
theorem leo_pre0 {e : TypeId} {n K : Nat} {c : Nat → Rat} {z : Nat → Lf} : AO.le (.row e 4 n fun _ j => z j) (.row e 4 n (qpre K 0 c z)) := by
  refine leo_row fun p hp q hq B w v hv => ?_
  unfold qpre
  rw [if_neg (Nat.not_lt_zero _)]; exact hv

/-- Pointers to a cell nobody writes. -/
theorem at1_le {a b : Lf} (h : ∀ B w c, LfR B w a c → LfR B w b c) : ∀ B w c, LfR B w (.at 1 fun q => (([a] : List Lf)[0 + q]?).getD (.v undef)) c → LfR B w (.at 1 fun q => (([b] : List Lf)[0 + q]?).getD (.v undef)) c := by
  rintro B w c ⟨bl, off, rfl, h1, h2, h3⟩
  refine ⟨bl, off, rfl, h1, h2, fun j hj => ?_⟩
  obtain ⟨x, hx, hl⟩ := h3 j hj
  obtain rfl : j = 0 := by omega
  exact ⟨x, hx, h _ _ _ hl⟩
theorem at2_le {l m : List Lf} {n : Nat} (hl : l.length = n) (h : ∀ B w cs, LsR B w l cs → LsR B w m cs) : ∀ B w c, LfR B w (.at n fun q => (l[0 + q]?).getD (.v undef)) c → LfR B w (.at n fun q => (m[0 + q]?).getD (.v undef)) c := by
  rintro B w c ⟨bl, off, rfl, h1, h2, h3⟩
  subst hl
  refine ⟨bl, off, rfl, h1, h2, ?_⟩
  let g : Nat → Value := fun j => (w.cell? ⟨bl, off + j, none⟩).getD (.bool false)
  have hcs : LsR B w l ((List.range l.length).map g) := by
    refine LsR.mk (by simp) fun j lf v hj hv => ?_
    have hlt : j < l.length := (List.getElem?_eq_some_iff.1 hj).1
    obtain ⟨x, hx, hlf⟩ := h3 j hlt
    replace hlf : LfR B w ((l[0 + j]?).getD (.v undef)) x := hlf
    rw [Nat.zero_add, hj] at hlf
    rw [List.getElem?_map, List.getElem?_range hlt] at hv
    have : v = x := by
      simp only [Option.map_some, Option.some.injEq] at hv
      rw [← hv]; show (w.cell? _).getD _ = x; rw [hx]; rfl
    rw [this]; exact hlf
  have hms := h _ _ _ hcs
  have hlen := hms.len
  intro j hj
  obtain ⟨x, hx, _⟩ := h3 j hj
  have hjm : j < m.length := by rw [hlen]; simp [hj]
  obtain ⟨v, hv, hlv⟩ := hms.get (j := j) (l := m[j]) (List.getElem?_eq_getElem hjm)
  rw [List.getElem?_map, List.getElem?_range hj] at hv
  have hvx : v = x := by
    simp only [Option.map_some, Option.some.injEq] at hv
    rw [← hv]; show (w.cell? _).getD _ = x; rw [hx]; rfl
  refine ⟨x, hx, ?_⟩
  show LfR B w ((m[0 + j]?).getD (.v undef)) x
  rw [Nat.zero_add, List.getElem?_eq_getElem hjm, ← hvx]
  exact hlv

/-- An element in any form, 0 where there is none. -/
def fx (n : Nat) (f : Nat → Bool × List Nat) (k : Nat) : Bool × List Nat := if k < n then f k else (false, [])
theorem fx_z {n k : Nat} {f : Nat → Bool × List Nat} {c : Nat → Int} (hf : ∀ i, i < n → fzv f i = c i) (hz : ∀ i, n ≤ i → c i = 0) : zv (fx n f k).1 (val (fx n f k).2) = c k := by
  unfold fx
  by_cases h : k < n
  · rw [if_pos h]; exact hf k h
  · rw [if_neg h]; exact (hz k (by omega)).symm

theorem dg_down {α : Type} [DecidableEq α] [OfNat α 0] {c : Nat → α} {n k : Nat} (h : dg c n = dg c k) (hk : k ≠ 0) (h0 : c (k - 1) = 0) : dg c n = dg c (k - 1) := by
  obtain ⟨j, rfl⟩ := Nat.exists_eq_succ_of_ne_zero hk
  rw [h]; exact dg_step h0

theorem maxNN (n m : Nat) : (if (true = true) then (if (m : Int) > (n : Int) then (m : Int) else (n : Int)) else (if (m : Int) < (n : Int) then (m : Int) else (n : Int))) = ((max n m : Nat) : Int) := by
  rw [if_pos rfl]; split <;> omega
theorem minNN (n m : Nat) : (if (false = true) then (if (m : Int) > (n : Int) then (m : Int) else (n : Int)) else (if (m : Int) < (n : Int) then (m : Int) else (n : Int))) = ((min n m : Nat) : Int) := by
  rw [if_neg (by decide)]; split <;> omega
/-- What is known of the arguments may be used. -/
theorem ACall.fact {P : Program} {f : FuncId} {args : List DV} {r : AV} {p : Prop} (he : ∀ vs w, (callFunc f vs).run P w = .ok (.enter f vs) w) (h : ∀ B w vs, DsR B w args vs → p) (k : p → ACall P f args r) : ACall P f args r :=
  ⟨he, fun B w vs hB hvs => (k (h B w vs hvs)).go B w vs hB hvs⟩
def cutf (k : Nat) (f : Nat → Bool × List Nat) : Nat → Bool × List Nat := fun i => ((f i).1, (f i).2.take k)
/-- The coefficients of a row in any form. -/
def cfz (n : Nat) (f : Nat → Bool × List Nat) : Nat → Int := fun i => if i < n then fzv f i else 0
theorem isp_a {K n : Nat} {f : Nat → Bool × List Nat} : IsP (arow K n f) K n (cfz n f) :=
  ⟨⟨f, fun _ _ _ h => h, fun i hi => by unfold cfz; rw [if_pos hi]⟩, fun i hi => by unfold cfz; rw [if_neg (by omega)]⟩
/-- Rows of integers. -/
def irow (n : Nat) (c : Nat → Int) : Lf := .row 1 n fun i _ => .v (.int .i64 (c i))
def IsI (l : Lf) (n : Nat) (c : Nat → Int) : Prop := (∀ B w v, LfR B w l v → LfR B w (irow n c) v) ∧ ∀ i, n ≤ i → c i = 0
theorem isi {n : Nat} {c : Nat → Int} (h : ∀ i, n ≤ i → c i = 0) : IsI (irow n c) n c := ⟨fun _ _ _ h => h, h⟩
theorem isi_nil : IsI (.v (.slice none 0 0)) 0 (fun _ => 0) := by
  refine ⟨?_, fun _ _ => rfl⟩
  rintro B w c ⟨rfl, _⟩
  exact ⟨none, 0, rfl, Nat.le_refl _, fun _ => rfl, fun i hi => absurd hi (Nat.not_lt_zero _)⟩
def lst (l : List Int) : Nat → Int := fun i => l.getD i 0
theorem isi_lit {l : List Int} {n : Nat} {el : Nat → Nat → Lf} (hn : l.length = n) (h : ∀ i, i < n → el i 0 = .v (.int .i64 (lst l i))) : IsI (.row 1 n el) n (lst l) := by
  refine ⟨row_le fun i hi j hj B w v hv => ?_, fun i hi => ?_⟩
  · obtain rfl : j = 0 := by omega
    rw [h i hi] at hv; exact hv
  · unfold lst; rw [List.getD_eq_getElem?_getD, List.getElem?_eq_none (by omega)]; rfl
theorem nil_prow {K : Nat} {c : Nat → Int} : AV.le (.d (.one (.v (.slice none 0 0)))) (.d (.one (prow K 0 c))) := by
  refine le_one ?_
  rintro B w v ⟨rfl, _⟩
  exact ⟨none, 0, rfl, Nat.le_refl _, fun _ => rfl, fun i hi => absurd hi (Nat.not_lt_zero _)⟩
theorem nil_qrow {K : Nat} {c : Nat → Rat} : AV.le (.d (.one (.v (.slice none 0 0)))) (.d (.one (qrow K 0 c))) := by
  refine le_one ?_
  rintro B w v ⟨rfl, _⟩
  exact ⟨none, 0, rfl, Nat.le_refl _, fun _ => rfl, fun i hi => absurd hi (Nat.not_lt_zero _)⟩
theorem dg_zero {α : Type} [DecidableEq α] [OfNat α 0] {c : Nat → α} (h : ∀ i, c i = 0) : ∀ n, dg c n = 0
  | 0 => rfl
  | n + 1 => by rw [dg_step (h n)]; exact dg_zero h n
theorem dg_all {α : Type} [DecidableEq α] [OfNat α 0] {c : Nat → α} {n : Nat} (hz : ∀ i, n ≤ i → c i = 0) (h : dg c n = 0) : ∀ i, c i = 0 := fun i => dg_z hz i (by omega)
/-- The coefficients as rationals. -/
def rc (c : Nat → Int) : Nat → Rat := fun i => ((c i : Int) : Rat)
theorem rc_z {c : Nat → Int} {n : Nat} (h : ∀ i, n ≤ i → c i = 0) : ∀ i, n ≤ i → rc c i = 0 := fun i hi => by unfold rc; rw [h i hi]; rfl
def faddQ (a b : Nat → Rat) : Nat → Rat := fun i => a i + b i
def fsclQ (a : Nat → Rat) (q : Rat) : Nat → Rat := fun i => a i * q
theorem faddQ_z {a b : Nat → Rat} {n m : Nat} (h : ∀ i, n ≤ i → a i = 0) (k : ∀ i, m ≤ i → b i = 0) : ∀ i, max n m ≤ i → faddQ a b i = 0 := fun i hi => by unfold faddQ; rw [h i (by omega), k i (by omega)]; exact Rat.add_zero 0
theorem fsclQ_z {a : Nat → Rat} {q : Rat} {n : Nat} (h : ∀ i, n ≤ i → a i = 0) : ∀ i, n ≤ i → fsclQ a q i = 0 := fun i hi => by unfold fsclQ; rw [h i hi]; grind
def fadd (a b : Nat → Int) : Nat → Int := fun i => a i + b i
def fsub (a b : Nat → Int) : Nat → Int := fun i => a i - b i
def fneg (a : Nat → Int) : Nat → Int := fun i => -a i
def fscl (a : Nat → Int) (q : Int) : Nat → Int := fun i => a i * q
def fder (a : Nat → Int) : Nat → Int := fun i => a (i + 1) * ((i + 1 : Nat) : Int)
theorem fadd_z {a b : Nat → Int} {n m : Nat} (h : ∀ i, n ≤ i → a i = 0) (k : ∀ i, m ≤ i → b i = 0) : ∀ i, max n m ≤ i → fadd a b i = 0 := fun i hi => by unfold fadd; rw [h i (by omega), k i (by omega)]; rfl
theorem fsub_z {a b : Nat → Int} {n m : Nat} (h : ∀ i, n ≤ i → a i = 0) (k : ∀ i, m ≤ i → b i = 0) : ∀ i, max n m ≤ i → fsub a b i = 0 := fun i hi => by unfold fsub; rw [h i (by omega), k i (by omega)]; rfl
theorem fneg_z {a : Nat → Int} {n : Nat} (h : ∀ i, n ≤ i → a i = 0) : ∀ i, n ≤ i → fneg a i = 0 := fun i hi => by unfold fneg; rw [h i hi]; rfl
theorem fscl_z {a : Nat → Int} {q : Int} {n : Nat} (h : ∀ i, n ≤ i → a i = 0) : ∀ i, n ≤ i → fscl a q i = 0 := fun i hi => by unfold fscl; rw [h i hi]; simp
theorem fder_z {a : Nat → Int} {n : Nat} (h : ∀ i, n ≤ i → a i = 0) : ∀ i, n - 1 ≤ i → fder a i = 0 := fun i hi => by unfold fder; rw [h (i + 1) (by omega)]; simp
/-! ### The product -/
theorem conv_z {a b : Nat → Int} {j : Nat} : ∀ {m : Nat}, (∀ i, i < m → i ≤ j → a i * b (j - i) = 0) → cv a b m j = 0
  | 0, _ => rfl
  | m + 1, h => by
    show cv a b m j + _ = 0
    rw [conv_z (fun i hi => h i (Nat.lt_succ_of_lt hi))]
    split
    · rename_i h1; rw [h m (Nat.lt_succ_self _) h1]; rfl
    · rfl
theorem conv_zQ {a b : Nat → Rat} {j : Nat} : ∀ {m : Nat}, (∀ i, i < m → i ≤ j → a i * b (j - i) = 0) → cv a b m j = 0
  | 0, _ => rfl
  | m + 1, h => by
    show cv a b m j + _ = 0
    rw [conv_zQ (fun i hi => h i (Nat.lt_succ_of_lt hi))]
    split
    · rename_i h1; rw [h m (Nat.lt_succ_self _) h1]; exact Rat.add_zero 0
    · exact Rat.add_zero 0
theorem cv_more {a b : Nat → Int} {j n : Nat} (ha : ∀ i, n ≤ i → a i = 0) : ∀ d, cv a b (n + d) j = cv a b n j
  | 0 => rfl
  | d + 1 => by
    show cv a b (n + d) j + (if n + d ≤ j then a (n + d) * b (j - (n + d)) else 0) = _
    rw [cv_more ha d, ha (n + d) (by omega)]
    split <;> simp
theorem cv_moreQ {a b : Nat → Rat} {j n : Nat} (ha : ∀ i, n ≤ i → a i = 0) : ∀ d, cv a b (n + d) j = cv a b n j
  | 0 => rfl
  | d + 1 => by
    show cv a b (n + d) j + (if n + d ≤ j then a (n + d) * b (j - (n + d)) else 0) = _
    rw [cv_moreQ ha d, ha (n + d) (by omega)]
    split <;> grind
theorem cv_past {a b : Nat → Int} {j : Nat} : ∀ d, cv a b (j + 1 + d) j = cv a b (j + 1) j
  | 0 => rfl
  | d + 1 => by
    show cv a b (j + 1 + d) j + (if j + 1 + d ≤ j then a (j + 1 + d) * b (j - (j + 1 + d)) else 0) = _
    rw [cv_past d, if_neg (by omega)]; simp
theorem cv_pastQ {a b : Nat → Rat} {j : Nat} : ∀ d, cv a b (j + 1 + d) j = cv a b (j + 1) j
  | 0 => rfl
  | d + 1 => by
    show cv a b (j + 1 + d) j + (if j + 1 + d ≤ j then a (j + 1 + d) * b (j - (j + 1 + d)) else 0) = _
    rw [cv_pastQ d, if_neg (by omega)]; grind
theorem cv_conv {a b : Nat → Int} {j n : Nat} (ha : ∀ i, n ≤ i → a i = 0) : cv a b n j = conv a b j := by
  unfold conv
  rw [← cv_more ha (j + 1), ← cv_past (a := a) (b := b) (j := j) n, Nat.add_comm]
theorem cv_convQ {a b : Nat → Rat} {j n : Nat} (ha : ∀ i, n ≤ i → a i = 0) : cv a b n j = conv a b j := by
  unfold conv
  rw [← cv_moreQ ha (j + 1), ← cv_pastQ (a := a) (b := b) (j := j) n, Nat.add_comm]
theorem conv_beyond {a b : Nat → Int} {j n m : Nat} (ha : ∀ i, n ≤ i → a i = 0) (hb : ∀ i, m ≤ i → b i = 0) (h : n + m ≤ j + 1) : conv a b j = 0 := by
  refine conv_z fun i _ hi => ?_
  by_cases h1 : n ≤ i
  · rw [ha i h1]; simp
  · rw [hb (j - i) (by omega)]; simp
theorem conv_beyondQ {a b : Nat → Rat} {j n m : Nat} (ha : ∀ i, n ≤ i → a i = 0) (hb : ∀ i, m ≤ i → b i = 0) (h : n + m ≤ j + 1) : conv a b j = 0 := by
  refine conv_zQ fun i _ hi => ?_
  by_cases h1 : n ≤ i
  · rw [ha i h1]; grind
  · rw [hb (j - i) (by omega)]; grind
theorem conv_z0 {a b : Nat → Int} {n m : Nat} (h : ∀ i, n ≤ i → a i = 0) (k : ∀ i, m ≤ i → b i = 0) : ∀ i, n + m ≤ i → conv a b i = 0 := fun i hi => conv_beyond h k (by omega)
theorem conv_z0Q {a b : Nat → Rat} {n m : Nat} (h : ∀ i, n ≤ i → a i = 0) (k : ∀ i, m ≤ i → b i = 0) : ∀ i, n + m ≤ i → conv a b i = 0 := fun i hi => conv_beyondQ h k (by omega)

theorem cv_cast {a b : Nat → Int} {j : Nat} : ∀ m, cv (fun i => ((a i : Int) : Rat)) (fun i => ((b i : Int) : Rat)) m j = ((cv a b m j : Int) : Rat)
  | 0 => rfl
  | m + 1 => by
    show cv _ _ m j + _ = (((cv a b m j + _ : Int)) : Rat)
    rw [cv_cast m, Rat.intCast_add]
    split
    · rw [Rat.intCast_mul]
    · rfl
/-- Within a round: the first k of the i-th have been added. -/
def cvk (a b : Nat → Int) (i k : Nat) : Nat → Int := fun j => cv a b i j + (if i ≤ j ∧ j < i + k then a i * b (j - i) else 0)
def cvkQ (a b : Nat → Rat) (i k : Nat) : Nat → Rat := fun j => cv a b i j + (if i ≤ j ∧ j < i + k then a i * b (j - i) else 0)
theorem cvk_zero {a b : Nat → Int} {i j : Nat} : cvk a b i 0 j = cv a b i j := by unfold cvk; rw [if_neg (by omega)]; simp
theorem cvkQ_zero {a b : Nat → Rat} {i j : Nat} : cvkQ a b i 0 j = cv a b i j := by unfold cvkQ; rw [if_neg (by omega)]; grind
theorem cvk_end {a b : Nat → Int} {i j m : Nat} (hb : ∀ k, m ≤ k → b k = 0) : cvk a b i m j = cv a b (i + 1) j := by
  show _ = cv a b i j + _
  unfold cvk
  by_cases h : i ≤ j
  · by_cases h2 : j < i + m
    · rw [if_pos ⟨h, h2⟩, if_pos h]
    · rw [if_neg (by omega), if_pos h, hb (j - i) (by omega)]; simp
  · rw [if_neg (by omega), if_neg h]
theorem cvkQ_end {a b : Nat → Rat} {i j m : Nat} (hb : ∀ k, m ≤ k → b k = 0) : cvkQ a b i m j = cv a b (i + 1) j := by
  show _ = cv a b i j + _
  unfold cvkQ
  by_cases h : i ≤ j
  · by_cases h2 : j < i + m
    · rw [if_pos ⟨h, h2⟩, if_pos h]
    · rw [if_neg (by omega), if_pos h, hb (j - i) (by omega)]; grind
  · rw [if_neg (by omega), if_neg h]
theorem cvk_step {a b : Nat → Int} {i k : Nat} : cvk a b i k (i + k) + a i * b k = cvk a b i (k + 1) (i + k) := by
  unfold cvk
  rw [if_neg (by omega), if_pos (by omega), Nat.add_sub_cancel_left]; simp
theorem cvkQ_step {a b : Nat → Rat} {i k : Nat} : cvkQ a b i k (i + k) + a i * b k = cvkQ a b i (k + 1) (i + k) := by
  unfold cvkQ
  rw [if_neg (by omega), if_pos (by omega), Nat.add_sub_cancel_left]; grind
theorem cvk_other {a b : Nat → Int} {i k j : Nat} (h : j ≠ i + k) : cvk a b i k j = cvk a b i (k + 1) j := by
  unfold cvk
  by_cases h1 : i ≤ j ∧ j < i + k
  · rw [if_pos h1, if_pos (by omega)]
  · rw [if_neg h1, if_neg (by omega)]
theorem cvkQ_other {a b : Nat → Rat} {i k j : Nat} (h : j ≠ i + k) : cvkQ a b i k j = cvkQ a b i (k + 1) j := by
  unfold cvkQ
  by_cases h1 : i ≤ j ∧ j < i + k
  · rw [if_pos h1, if_pos (by omega)]
  · rw [if_neg h1, if_neg (by omega)]
theorem conv_l0 {a b : Nat → Int} (h : ∀ i, a i = 0) (j : Nat) : conv a b j = 0 := conv_z fun i _ _ => by rw [h i]; simp
theorem conv_r0 {a b : Nat → Int} (h : ∀ i, b i = 0) (j : Nat) : conv a b j = 0 := conv_z fun i _ _ => by rw [h]; simp
theorem conv_l0Q {a b : Nat → Rat} (h : ∀ i, a i = 0) (j : Nat) : conv a b j = 0 := conv_zQ fun i _ _ => by rw [h i]; grind
theorem conv_r0Q {a b : Nat → Rat} (h : ∀ i, b i = 0) (j : Nat) : conv a b j = 0 := conv_zQ fun i _ _ => by rw [h]; grind
theorem nil_prow' {K n : Nat} {c : Nat → Int} (h : n = 0) : AV.le (.d (.one (.v (.slice none 0 0)))) (.d (.one (prow K n c))) := by subst h; exact nil_prow
theorem nil_qrow' {K n : Nat} {c : Nat → Rat} (h : n = 0) : AV.le (.d (.one (.v (.slice none 0 0)))) (.d (.one (qrow K n c))) := by subst h; exact nil_qrow
/-- The bounds of a product's elements, within a round. -/
def kf (R : Nat → Nat) (i k p : Nat) : Nat := if i ≤ p ∧ p < i + k then R (i + 1) else R i
theorem kf_at {R : Nat → Nat} {i k : Nat} : kf R i k (i + k) = R i := if_neg (by omega)
theorem kf_new {R : Nat → Nat} {i k : Nat} : kf R i (k + 1) (i + k) = R (i + 1) := if_pos (by omega)
theorem kf_le {R : Nat → Nat} {i k p : Nat} (h : R i ≤ R (i + 1)) : kf R i k p ≤ kf R i (k + 1) p := by
  unfold kf
  by_cases h1 : i ≤ p ∧ p < i + k
  · rw [if_pos h1, if_pos (by omega)]; exact Nat.le_refl _
  · rw [if_neg h1]; split
    · exact h
    · exact Nat.le_refl _
theorem kf_end {R : Nat → Nat} {i k p : Nat} (h : R i ≤ R (i + 1)) : kf R i k p ≤ R (i + 1) := by
  unfold kf; split
  · exact Nat.le_refl _
  · exact h
theorem kf_start {R : Nat → Nat} {i p : Nat} : R i ≤ kf R i 0 p := by unfold kf; rw [if_neg (by omega)]; exact Nat.le_refl _
/-- Rows of polynomials. -/
def prows (K n : Nat) (ns : Nat → Nat) (fs : Nat → Nat → Bool × List Nat) : Lf := .row 1 n fun p _ => arow K (ns p) (fs p)
def sumc (ns : Nat → Nat) (fs : Nat → Nat → Bool × List Nat) : Nat → Nat → Int
  | 0 => fun _ => 0
  | i + 1 => fadd (sumc ns fs i) (cfz (ns i) (fs i))
def prodc (ns : Nat → Nat) (fs : Nat → Nat → Bool × List Nat) : Nat → Nat → Int
  | 0 => lst [1]
  | i + 1 => conv (prodc ns fs i) (cfz (ns i) (fs i))
theorem cfz_z {n : Nat} {f : Nat → Bool × List Nat} : ∀ i, n ≤ i → cfz n f i = 0 := fun i hi => if_neg (by omega)
theorem lst_z {l : List Int} : ∀ i, l.length ≤ i → lst l i = 0 := fun i hi => by unfold lst; rw [List.getD_eq_getElem?_getD, List.getElem?_eq_none hi]; rfl
theorem sumc_z {ns : Nat → Nat} {fs : Nat → Nat → Bool × List Nat} {N : Nat} : ∀ {i : Nat}, (∀ p, p < i → ns p ≤ N) → ∀ j, N ≤ j → sumc ns fs i j = 0
  | 0, _, _, _ => rfl
  | i + 1, h, j, hj => by
    show sumc ns fs i j + cfz (ns i) (fs i) j = 0
    rw [sumc_z (fun p hp => h p (by omega)) j hj, cfz_z j (Nat.le_trans (h i (by omega)) hj)]; rfl
theorem prodc_z {ns : Nat → Nat} {fs : Nat → Nat → Bool × List Nat} {N : Nat} : ∀ {i : Nat}, (∀ p, p < i → ns p ≤ N) → ∀ j, i * N + 1 ≤ j → prodc ns fs i j = 0
  | 0, _, j, hj => lst_z j (by simpa using hj)
  | i + 1, h, j, hj => conv_beyond (prodc_z (fun p hp => h p (by omega))) (cfz_z (n := ns i)) (by have := h i (by omega); have h2 : (i + 1) * N = i * N + N := Nat.succ_mul i N; omega)
/-- Moved: step by step from the top. -/
def lin (x y : Int) : Nat → Int := fun i => if i = 0 then x else if i = 1 then y else 0
def onez (z : Int) : Nat → Int := fun i => if i = 0 then z else 0
def mvZ (a : Nat → Int) (x y : Int) (top : Nat) : Nat → Nat → Int
  | 0 => fun _ => 0
  | s + 1 => fadd (conv (mvZ a x y top s) (lin x y)) (onez (a (top - 1 - s) * y ^ s))
theorem lin_z {x y : Int} : ∀ i, 2 ≤ i → lin x y i = 0 := fun i hi => by unfold lin; rw [if_neg (by omega), if_neg (by omega)]
theorem onez_z {z : Int} : ∀ i, 1 ≤ i → onez z i = 0 := fun i hi => if_neg (by omega)
theorem mvZ_z {a : Nat → Int} {x y : Int} {top : Nat} : ∀ (s j : Nat), s ≤ j → mvZ a x y top s j = 0
  | 0, _, _ => rfl
  | s + 1, j, hj => by
    show conv (mvZ a x y top s) (lin x y) j + onez _ j = 0
    rw [conv_beyond (n := s) (m := 2) (mvZ_z s) lin_z (by omega), onez_z j (by omega)]; rfl
end Go.Proofs.Ytkcagkcphobmfaa
