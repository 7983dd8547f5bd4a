/-
  THE ABSTRACT MACHINE, 17: rows that are made and written, element by element; captured rows; the product's coefficients. No condition; nothing of the program.
-/
import Derived.Test.YtlkdlicbhhackaaJ3
set_option linter.unusedVariables false
set_option linter.unusedSimpArgs false
namespace Go.Proofs.Ytlkdlicbhhackaa
open Go.RowKit

/-- Made: all are 0. -/
theorem leo_zero {e : TypeId} {n K : Nat} {c : Nat → Int} (h : ∀ i, i < n → c i = 0) : AO.le (.row e 2 n fun _ j => .v ((([Value.bool false, Value.slice none 0 0] : List Value)[j]?).getD undef)) (.row e 2 n (zel K c)) := by
  refine leo_row fun i hi j hj B w v hv => ?_
  unfold zel
  rw [h i hi]
  match j, hj with
  | 0, _ => exact hv
  | 1, _ => exact nil_lr K (fun _ => none) B w v hv
theorem cell_z {K L : Nat} {z y : Int} (hK : K ≤ L) (e : z = y) : ∀ q, q < 2 → ∀ B w v, LfR B w (((zn K z)[q]?).getD (.v undef)) v → LfR B w (((zn L y)[q]?).getD (.v undef)) v := by
  subst e
  intro q hq B w v hv
  match q, hq with
  | 0, _ => exact hv
  | 1, _ => exact lr_mono hK _ _ _ hv
theorem cell_q {K L : Nat} {z y : Rat} (hK : K ≤ L) (e : z = y) : ∀ q, q < 4 → ∀ B w v, LfR B w (((qn K z)[q]?).getD (.v undef)) v → LfR B w (((qn L y)[q]?).getD (.v undef)) v := by
  subst e
  intro q hq B w v hv
  match q, hq with
  | 0, _ => exact dr_mono hK _ _ _ hv
  | 1, _ => exact hv
  | 2, _ => exact dr_mono hK _ _ _ hv
  | 3, _ => exact hv
/-- One element is written. -/
theorem st_z {e : TypeId} {n i K L M : Nat} {c d : Nat → Int} {z : Int} (hK : K ≤ L) (hM : M ≤ L) (hz : z = d i) (h : ∀ p, p < n → p ≠ i → c p = d p) : AO.le (.row e 2 n fun p q => if p = i then ((zn M z)[q]?).getD (.v undef) else zel K c p q) (.row e 2 n (zel L d)) := by
  refine leo_row fun p hp q hq B w v hv => ?_
  by_cases hpi : p = i
  · subst hpi
    rw [if_pos rfl] at hv
    exact cell_z hM hz q hq _ _ _ hv
  · rw [if_neg hpi] at hv
    unfold zel
    exact cell_z hK (h p hp hpi) q hq _ _ _ hv
/-- Rationals, each of a bound of its own. -/
def qelv (Kf : Nat → Nat) (c : Nat → Rat) : Nat → Nat → Lf := fun i j => ((qn (Kf i) (c i))[j]?).getD (.v undef)
theorem st_q {e : TypeId} {n i M : Nat} {Kf Lf' : Nat → Nat} {c d : Nat → Rat} {z : Rat} (hK : ∀ p, p < n → p ≠ i → Kf p ≤ Lf' p) (hM : M ≤ Lf' i) (hz : z = d i) (h : ∀ p, p < n → p ≠ i → c p = d p) : AO.le (.row e 4 n fun p q => if p = i then ((qn M z)[q]?).getD (.v undef) else qelv Kf c p q) (.row e 4 n (qelv Lf' d)) := by
  refine leo_row fun p hp q hq B w v hv => ?_
  by_cases hpi : p = i
  · subst hpi
    rw [if_pos rfl] at hv
    exact cell_q hM hz q hq _ _ _ hv
  · rw [if_neg hpi] at hv
    exact cell_q (hK p hp hpi) (h p hp hpi) q hq _ _ _ hv
theorem leo_qelv {e : TypeId} {n : Nat} {Kf Lf' : Nat → Nat} {c d : Nat → Rat} (hK : ∀ p, p < n → Kf p ≤ Lf' p) (h : ∀ p, p < n → c p = d p) : AO.le (.row e 4 n (qelv Kf c)) (.row e 4 n (qelv Lf' d)) :=
  leo_row fun p hp q hq B w v hv => cell_q (hK p hp) (h p hp) q hq _ _ _ hv
theorem row_qelv {n K : Nat} {Kf : Nat → Nat} {c d : Nat → Rat} (hK : ∀ p, p < n → Kf p ≤ K) (h : ∀ p, p < n → c p = d p) : ∀ B w v, LfR B w (.row 4 n (qelv Kf c)) v → LfR B w (qrow K n d) v :=
  row_le fun p hp q hq B w v hv => cell_q (hK p hp) (h p hp) q hq _ _ _ hv
/-- A row whose first ones are written; the others are still as they were made. -/
def qpre (K i : Nat) (c : Nat → Rat) (z : Nat → Lf) : Nat → Nat → Lf := fun p q => if p < i then ((qn K (c p))[q]?).getD (.v undef) else z q
theorem st_pre {e : TypeId} {n i K M : Nat} {c : Nat → Rat} {z : Nat → Lf} {q0 : Rat} (hM : M ≤ K) (hz : q0 = c i) : AO.le (.row e 4 n fun p q => if p = i then ((qn M q0)[q]?).getD (.v undef) else qpre K i c z p q) (.row e 4 n (qpre K (i + 1) c z)) := by
  refine leo_row fun p hp q hq B w v hv => ?_
  unfold qpre at *
  by_cases hpi : p = i
  · subst hpi
    rw [if_pos rfl] at hv
    rw [if_pos (by omega)]
    exact cell_q hM hz q hq _ _ _ hv
  · rw [if_neg hpi] at hv
    by_cases hlt : p < i
    · rw [if_pos hlt] at hv; rw [if_pos (by omega)]; exact hv
    · rw [if_neg hlt] at hv; rw [if_neg (by omega)]; exact hv
theorem leo_pre {e : TypeId} {n K : Nat} {Kf : Nat → Nat} {c d : Nat → Rat} {z : Nat → Lf} (hK : ∀ p, p < n → K ≤ Kf p) (h : ∀ p, p < n → c p = d p) : AO.le (.row e 4 n (qpre K n c z)) (.row e 4 n (qelv Kf d)) := by
  refine leo_row fun p hp q hq B w v hv => ?_
  unfold qpre at hv
  rw [if_pos hp] at hv
  exact cell_q (hK p hp) (h p hp) q hq _ _ _ hv
theorem leo_pre0 {e : TypeId} {n K : Nat} {c : Nat → Rat} {z : Nat → Lf} : AO.le (.row e 4 n fun _ j => z j) (.row e 4 n (qpre K 0 c z)) := by
  refine leo_row fun p hp q hq B w v hv => ?_
  unfold qpre
  rw [if_neg (Nat.not_lt_zero _)]; exact hv

/-- Pointers to a cell nobody writes. -/
theorem at1_le {a b : Lf} (h : ∀ B w c, LfR B w a c → LfR B w b c) : ∀ B w c, LfR B w (.at 1 fun q => (([a] : List Lf)[0 + q]?).getD (.v undef)) c → LfR B w (.at 1 fun q => (([b] : List Lf)[0 + q]?).getD (.v undef)) c := by
  rintro B w c ⟨bl, off, rfl, h1, h2, h3⟩
  refine ⟨bl, off, rfl, h1, h2, fun j hj => ?_⟩
  obtain ⟨x, hx, hl⟩ := h3 j hj
  obtain rfl : j = 0 := by omega
  exact ⟨x, hx, h _ _ _ hl⟩
theorem at2_le {l m : List Lf} {n : Nat} (hl : l.length = n) (h : ∀ B w cs, LsR B w l cs → LsR B w m cs) : ∀ B w c, LfR B w (.at n fun q => (l[0 + q]?).getD (.v undef)) c → LfR B w (.at n fun q => (m[0 + q]?).getD (.v undef)) c := by
  rintro B w c ⟨bl, off, rfl, h1, h2, h3⟩
  subst hl
  refine ⟨bl, off, rfl, h1, h2, ?_⟩
  let g : Nat → Value := fun j => (w.cell? ⟨bl, off + j, none⟩).getD (.bool false)
  have hcs : LsR B w l ((List.range l.length).map g) := by
    refine LsR.mk (by simp) fun j lf v hj hv => ?_
    have hlt : j < l.length := (List.getElem?_eq_some_iff.1 hj).1
    obtain ⟨x, hx, hlf⟩ := h3 j hlt
    replace hlf : LfR B w ((l[0 + j]?).getD (.v undef)) x := hlf
    rw [Nat.zero_add, hj] at hlf
    rw [List.getElem?_map, List.getElem?_range hlt] at hv
    have : v = x := by
      simp only [Option.map_some, Option.some.injEq] at hv
      rw [← hv]; show (w.cell? _).getD _ = x; rw [hx]; rfl
    rw [this]; exact hlf
  have hms := h _ _ _ hcs
  have hlen := hms.len
  intro j hj
  obtain ⟨x, hx, _⟩ := h3 j hj
  have hjm : j < m.length := by rw [hlen]; simp [hj]
  obtain ⟨v, hv, hlv⟩ := hms.get (j := j) (l := m[j]) (List.getElem?_eq_getElem hjm)
  rw [List.getElem?_map, List.getElem?_range hj] at hv
  have hvx : v = x := by
    simp only [Option.map_some, Option.some.injEq] at hv
    rw [← hv]; show (w.cell? _).getD _ = x; rw [hx]; rfl
  refine ⟨x, hx, ?_⟩
  show LfR B w ((m[0 + j]?).getD (.v undef)) x
  rw [Nat.zero_add, List.getElem?_eq_getElem hjm, ← hvx]
  exact hlv

/-- An element in any form, 0 where there is none. -/
def fx (n : Nat) (f : Nat → Bool × List Nat) (k : Nat) : Bool × List Nat := if k < n then f k else (false, [])
theorem fx_z {n k : Nat} {f : Nat → Bool × List Nat} {c : Nat → Int} (hf : ∀ i, i < n → fzv f i = c i) (hz : ∀ i, n ≤ i → c i = 0) : zv (fx n f k).1 (val (fx n f k).2) = c k := by
  unfold fx
  by_cases h : k < n
  · rw [if_pos h]; exact hf k h
  · rw [if_neg h]; exact (hz k (by omega)).symm

theorem dg_down {α : Type} [DecidableEq α] [OfNat α 0] {c : Nat → α} {n k : Nat} (h : dg c n = dg c k) (hk : k ≠ 0) (h0 : c (k - 1) = 0) : dg c n = dg c (k - 1) := by
  obtain ⟨j, rfl⟩ := Nat.exists_eq_succ_of_ne_zero hk
  rw [h]; exact dg_step h0

theorem maxNN (n m : Nat) : (if (true = true) then (if (m : Int) > (n : Int) then (m : Int) else (n : Int)) else (if (m : Int) < (n : Int) then (m : Int) else (n : Int))) = ((max n m : Nat) : Int) := by
  rw [if_pos rfl]; split <;> omega
theorem minNN (n m : Nat) : (if (false = true) then (if (m : Int) > (n : Int) then (m : Int) else (n : Int)) else (if (m : Int) < (n : Int) then (m : Int) else (n : Int))) = ((min n m : Nat) : Int) := by
  rw [if_neg (by decide)]; split <;> omega
/-- What is known of the arguments may be used. -/
theorem ACall.fact {P : Program} {f : FuncId} {args : List DV} {r : AV} {p : Prop} (he : ∀ vs w, (callFunc f vs).run P w = .ok (.enter f vs) w) (h : ∀ B w vs, DsR B w args vs → p) (k : p → ACall P f args r) : ACall P f args r :=
  ⟨he, fun B w vs hB hvs => (k (h B w vs hvs)).go B w vs hB hvs⟩
def cutf (k : Nat) (f : Nat → Bool × List Nat) : Nat → Bool × List Nat := fun i => ((f i).1, (f i).2.take k)
/-- The coefficients of a row in any form. -/
def cfz (n : Nat) (f : Nat → Bool × List Nat) : Nat → Int := fun i => if i < n then fzv f i else 0
theorem isp_a {K n : Nat} {f : Nat → Bool × List Nat} : IsP (arow K n f) K n (cfz n f) :=
  ⟨⟨f, fun _ _ _ h => h, fun i hi => by unfold cfz; rw [if_pos hi]⟩, fun i hi => by unfold cfz; rw [if_neg (by omega)]⟩
/-- Rows of integers. -/
def irow (n : Nat) (c : Nat → Int) : Lf := .row 1 n fun i _ => .v (.int .i64 (c i))
def IsI (l : Lf) (n : Nat) (c : Nat → Int) : Prop := (∀ B w v, LfR B w l v → LfR B w (irow n c) v) ∧ ∀ i, n ≤ i → c i = 0
theorem isi {n : Nat} {c : Nat → Int} (h : ∀ i, n ≤ i → c i = 0) : IsI (irow n c) n c := ⟨fun _ _ _ h => h, h⟩
theorem isi_nil : IsI (.v (.slice none 0 0)) 0 (fun _ => 0) := by
  refine ⟨?_, fun _ _ => rfl⟩
  rintro B w c ⟨rfl, _⟩
  exact ⟨none, 0, rfl, Nat.le_refl _, fun _ => rfl, fun i hi => absurd hi (Nat.not_lt_zero _)⟩
def lst (l : List Int) : Nat → Int := fun i => l.getD i 0
theorem isi_lit {l : List Int} {n : Nat} {el : Nat → Nat → Lf} (hn : l.length = n) (h : ∀ i, i < n → el i 0 = .v (.int .i64 (lst l i))) : IsI (.row 1 n el) n (lst l) := by
  refine ⟨row_le fun i hi j hj B w v hv => ?_, fun i hi => ?_⟩
  · obtain rfl : j = 0 := by omega
    rw [h i hi] at hv; exact hv
  · unfold lst; rw [List.getD_eq_getElem?_getD, List.getElem?_eq_none (by omega)]; rfl
theorem nil_prow {K : Nat} {c : Nat → Int} : AV.le (.d (.one (.v (.slice none 0 0)))) (.d (.one (prow K 0 c))) := by
  refine le_one ?_
  rintro B w v ⟨rfl, _⟩
  exact ⟨none, 0, rfl, Nat.le_refl _, fun _ => rfl, fun i hi => absurd hi (Nat.not_lt_zero _)⟩
theorem nil_qrow {K : Nat} {c : Nat → Rat} : AV.le (.d (.one (.v (.slice none 0 0)))) (.d (.one (qrow K 0 c))) := by
  refine le_one ?_
  rintro B w v ⟨rfl, _⟩
  exact ⟨none, 0, rfl, Nat.le_refl _, fun _ => rfl, fun i hi => absurd hi (Nat.not_lt_zero _)⟩
theorem dg_zero {α : Type} [DecidableEq α] [OfNat α 0] {c : Nat → α} (h : ∀ i, c i = 0) : ∀ n, dg c n = 0
  | 0 => rfl
  | n + 1 => by rw [dg_step (h n)]; exact dg_zero h n
theorem dg_all {α : Type} [DecidableEq α] [OfNat α 0] {c : Nat → α} {n : Nat} (hz : ∀ i, n ≤ i → c i = 0) (h : dg c n = 0) : ∀ i, c i = 0 := fun i => dg_z hz i (by omega)
/-- The coefficients as rationals. -/
def rc (c : Nat → Int) : Nat → Rat := fun i => ((c i : Int) : Rat)
theorem rc_z {c : Nat → Int} {n : Nat} (h : ∀ i, n ≤ i → c i = 0) : ∀ i, n ≤ i → rc c i = 0 := fun i hi => by unfold rc; rw [h i hi]; rfl
def faddQ (a b : Nat → Rat) : Nat → Rat := fun i => a i + b i
def fsclQ (a : Nat → Rat) (q : Rat) : Nat → Rat := fun i => a i * q
theorem faddQ_z {a b : Nat → Rat} {n m : Nat} (h : ∀ i, n ≤ i → a i = 0) (k : ∀ i, m ≤ i → b i = 0) : ∀ i, max n m ≤ i → faddQ a b i = 0 := fun i hi => by unfold faddQ; rw [h i (by omega), k i (by omega)]; exact Rat.add_zero 0
theorem fsclQ_z {a : Nat → Rat} {q : Rat} {n : Nat} (h : ∀ i, n ≤ i → a i = 0) : ∀ i, n ≤ i → fsclQ a q i = 0 := fun i hi => by unfold fsclQ; rw [h i hi]; grind
def fadd (a b : Nat → Int) : Nat → Int := fun i => a i + b i
def fsub (a b : Nat → Int) : Nat → Int := fun i => a i - b i
def fneg (a : Nat → Int) : Nat → Int := fun i => -a i
def fscl (a : Nat → Int) (q : Int) : Nat → Int := fun i => a i * q
def fder (a : Nat → Int) : Nat → Int := fun i => a (i + 1) * ((i + 1 : Nat) : Int)
theorem fadd_z {a b : Nat → Int} {n m : Nat} (h : ∀ i, n ≤ i → a i = 0) (k : ∀ i, m ≤ i → b i = 0) : ∀ i, max n m ≤ i → fadd a b i = 0 := fun i hi => by unfold fadd; rw [h i (by omega), k i (by omega)]; rfl
theorem fsub_z {a b : Nat → Int} {n m : Nat} (h : ∀ i, n ≤ i → a i = 0) (k : ∀ i, m ≤ i → b i = 0) : ∀ i, max n m ≤ i → fsub a b i = 0 := fun i hi => by unfold fsub; rw [h i (by omega), k i (by omega)]; rfl
theorem fneg_z {a : Nat → Int} {n : Nat} (h : ∀ i, n ≤ i → a i = 0) : ∀ i, n ≤ i → fneg a i = 0 := fun i hi => by unfold fneg; rw [h i hi]; rfl
theorem fscl_z {a : Nat → Int} {q : Int} {n : Nat} (h : ∀ i, n ≤ i → a i = 0) : ∀ i, n ≤ i → fscl a q i = 0 := fun i hi => by unfold fscl; rw [h i hi]; simp
theorem fder_z {a : Nat → Int} {n : Nat} (h : ∀ i, n ≤ i → a i = 0) : ∀ i, n - 1 ≤ i → fder a i = 0 := fun i hi => by unfold fder; rw [h (i + 1) (by omega)]; simp
/-! ### The product -/
theorem conv_z {a b : Nat → Int} {j : Nat} : ∀ {m : Nat}, (∀ i, i < m → i ≤ j → a i * b (j - i) = 0) → cv a b m j = 0
  | 0, _ => rfl
  | m + 1, h => by
    show cv a b m j + _ = 0
    rw [conv_z (fun i hi => h i (Nat.lt_succ_of_lt hi))]
    split
    · rename_i h1; rw [h m (Nat.lt_succ_self _) h1]; rfl
    · rfl
theorem conv_zQ {a b : Nat → Rat} {j : Nat} : ∀ {m : Nat}, (∀ i, i < m → i ≤ j → a i * b (j - i) = 0) → cv a b m j = 0
  | 0, _ => rfl
  | m + 1, h => by
    show cv a b m j + _ = 0
    rw [conv_zQ (fun i hi => h i (Nat.lt_succ_of_lt hi))]
    split
    · rename_i h1; rw [h m (Nat.lt_succ_self _) h1]; exact Rat.add_zero 0
    · exact Rat.add_zero 0
theorem cv_more {a b : Nat → Int} {j n : Nat} (ha : ∀ i, n ≤ i → a i = 0) : ∀ d, cv a b (n + d) j = cv a b n j
  | 0 => rfl
  | d + 1 => by
    show cv a b (n + d) j + (if n + d ≤ j then a (n + d) * b (j - (n + d)) else 0) = _
    rw [cv_more ha d, ha (n + d) (by omega)]
    split <;> simp
theorem cv_moreQ {a b : Nat → Rat} {j n : Nat} (ha : ∀ i, n ≤ i → a i = 0) : ∀ d, cv a b (n + d) j = cv a b n j
  | 0 => rfl
  | d + 1 => by
    show cv a b (n + d) j + (if n + d ≤ j then a (n + d) * b (j - (n + d)) else 0) = _
    rw [cv_moreQ ha d, ha (n + d) (by omega)]
    split <;> grind
theorem cv_past {a b : Nat → Int} {j : Nat} : ∀ d, cv a b (j + 1 + d) j = cv a b (j + 1) j
  | 0 => rfl
  | d + 1 => by
    show cv a b (j + 1 + d) j + (if j + 1 + d ≤ j then a (j + 1 + d) * b (j - (j + 1 + d)) else 0) = _
    rw [cv_past d, if_neg (by omega)]; simp
theorem cv_pastQ {a b : Nat → Rat} {j : Nat} : ∀ d, cv a b (j + 1 + d) j = cv a b (j + 1) j
  | 0 => rfl
  | d + 1 => by
    show cv a b (j + 1 + d) j + (if j + 1 + d ≤ j then a (j + 1 + d) * b (j - (j + 1 + d)) else 0) = _
    rw [cv_pastQ d, if_neg (by omega)]; grind
theorem cv_conv {a b : Nat → Int} {j n : Nat} (ha : ∀ i, n ≤ i → a i = 0) : cv a b n j = conv a b j := by
  unfold conv
  rw [← cv_more ha (j + 1), ← cv_past (a := a) (b := b) (j := j) n, Nat.add_comm]
theorem cv_convQ {a b : Nat → Rat} {j n : Nat} (ha : ∀ i, n ≤ i → a i = 0) : cv a b n j = conv a b j := by
  unfold conv
  rw [← cv_moreQ ha (j + 1), ← cv_pastQ (a := a) (b := b) (j := j) n, Nat.add_comm]
theorem conv_beyond {a b : Nat → Int} {j n m : Nat} (ha : ∀ i, n ≤ i → a i = 0) (hb : ∀ i, m ≤ i → b i = 0) (h : n + m ≤ j + 1) : conv a b j = 0 := by
  refine conv_z fun i _ hi => ?_
  by_cases h1 : n ≤ i
  · rw [ha i h1]; simp
  · rw [hb (j - i) (by omega)]; simp
theorem conv_beyondQ {a b : Nat → Rat} {j n m : Nat} (ha : ∀ i, n ≤ i → a i = 0) (hb : ∀ i, m ≤ i → b i = 0) (h : n + m ≤ j + 1) : conv a b j = 0 := by
  refine conv_zQ fun i _ hi => ?_
  by_cases h1 : n ≤ i
  · rw [ha i h1]; grind
  · rw [hb (j - i) (by omega)]; grind
theorem conv_z0 {a b : Nat → Int} {n m : Nat} (h : ∀ i, n ≤ i → a i = 0) (k : ∀ i, m ≤ i → b i = 0) : ∀ i, n + m ≤ i → conv a b i = 0 := fun i hi => conv_beyond h k (by omega)
theorem conv_z0Q {a b : Nat → Rat} {n m : Nat} (h : ∀ i, n ≤ i → a i = 0) (k : ∀ i, m ≤ i → b i = 0) : ∀ i, n + m ≤ i → conv a b i = 0 := fun i hi => conv_beyondQ h k (by omega)

theorem cv_cast {a b : Nat → Int} {j : Nat} : ∀ m, cv (fun i => ((a i : Int) : Rat)) (fun i => ((b i : Int) : Rat)) m j = ((cv a b m j : Int) : Rat)
  | 0 => rfl
  | m + 1 => by
    show cv _ _ m j + _ = (((cv a b m j + _ : Int)) : Rat)
    rw [cv_cast m, Rat.intCast_add]
    split
    · rw [Rat.intCast_mul]
    · rfl
/-- Within a round: the first k of the i-th have been added. -/
def cvk (a b : Nat → Int) (i k : Nat) : Nat → Int := fun j => cv a b i j + (if i ≤ j ∧ j < i + k then a i * b (j - i) else 0)
def cvkQ (a b : Nat → Rat) (i k : Nat) : Nat → Rat := fun j => cv a b i j + (if i ≤ j ∧ j < i + k then a i * b (j - i) else 0)
theorem cvk_zero {a b : Nat → Int} {i j : Nat} : cvk a b i 0 j = cv a b i j := by unfold cvk; rw [if_neg (by omega)]; simp
theorem cvkQ_zero {a b : Nat → Rat} {i j : Nat} : cvkQ a b i 0 j = cv a b i j := by unfold cvkQ; rw [if_neg (by omega)]; grind
theorem cvk_end {a b : Nat → Int} {i j m : Nat} (hb : ∀ k, m ≤ k → b k = 0) : cvk a b i m j = cv a b (i + 1) j := by
  show _ = cv a b i j + _
  unfold cvk
  by_cases h : i ≤ j
  · by_cases h2 : j < i + m
    · rw [if_pos ⟨h, h2⟩, if_pos h]
    · rw [if_neg (by omega), if_pos h, hb (j - i) (by omega)]; simp
  · rw [if_neg (by omega), if_neg h]
theorem cvkQ_end {a b : Nat → Rat} {i j m : Nat} (hb : ∀ k, m ≤ k → b k = 0) : cvkQ a b i m j = cv a b (i + 1) j := by
  show _ = cv a b i j + _
  unfold cvkQ
  by_cases h : i ≤ j
  · by_cases h2 : j < i + m
    · rw [if_pos ⟨h, h2⟩, if_pos h]
    · rw [if_neg (by omega), if_pos h, hb (j - i) (by omega)]; grind
  · rw [if_neg (by omega), if_neg h]
theorem cvk_step {a b : Nat → Int} {i k : Nat} : cvk a b i k (i + k) + a i * b k = cvk a b i (k + 1) (i + k) := by
  unfold cvk
  rw [if_neg (by omega), if_pos (by omega), Nat.add_sub_cancel_left]; simp
theorem cvkQ_step {a b : Nat → Rat} {i k : Nat} : cvkQ a b i k (i + k) + a i * b k = cvkQ a b i (k + 1) (i + k) := by
  unfold cvkQ
  rw [if_neg (by omega), if_pos (by omega), Nat.add_sub_cancel_left]; grind
theorem cvk_other {a b : Nat → Int} {i k j : Nat} (h : j ≠ i + k) : cvk a b i k j = cvk a b i (k + 1) j := by
  unfold cvk
  by_cases h1 : i ≤ j ∧ j < i + k
  · rw [if_pos h1, if_pos (by omega)]
  · rw [if_neg h1, if_neg (by omega)]
theorem cvkQ_other {a b : Nat → Rat} {i k j : Nat} (h : j ≠ i + k) : cvkQ a b i k j = cvkQ a b i (k + 1) j := by
  unfold cvkQ
  by_cases h1 : i ≤ j ∧ j < i + k
  · rw [if_pos h1, if_pos (by omega)]
  · rw [if_neg h1, if_neg (by omega)]
theorem conv_l0 {a b : Nat → Int} (h : ∀ i, a i = 0) (j : Nat) : conv a b j = 0 := conv_z fun i _ _ => by rw [h i]; simp
theorem conv_r0 {a b : Nat → Int} (h : ∀ i, b i = 0) (j : Nat) : conv a b j = 0 := conv_z fun i _ _ => by rw [h]; simp
theorem conv_l0Q {a b : Nat → Rat} (h : ∀ i, a i = 0) (j : Nat) : conv a b j = 0 := conv_zQ fun i _ _ => by rw [h i]; grind
theorem conv_r0Q {a b : Nat → Rat} (h : ∀ i, b i = 0) (j : Nat) : conv a b j = 0 := conv_zQ fun i _ _ => by rw [h]; grind
theorem nil_prow' {K n : Nat} {c : Nat → Int} (h : n = 0) : AV.le (.d (.one (.v (.slice none 0 0)))) (.d (.one (prow K n c))) := by subst h; exact nil_prow
theorem nil_qrow' {K n : Nat} {c : Nat → Rat} (h : n = 0) : AV.le (.d (.one (.v (.slice none 0 0)))) (.d (.one (qrow K n c))) := by subst h; exact nil_qrow
/-- The bounds of a product's elements, within a round. -/
def kf (R : Nat → Nat) (i k p : Nat) : Nat := if i ≤ p ∧ p < i + k then R (i + 1) else R i
theorem kf_at {R : Nat → Nat} {i k : Nat} : kf R i k (i + k) = R i := if_neg (by omega)
theorem kf_new {R : Nat → Nat} {i k : Nat} : kf R i (k + 1) (i + k) = R (i + 1) := if_pos (by omega)
theorem kf_le {R : Nat → Nat} {i k p : Nat} (h : R i ≤ R (i + 1)) : kf R i k p ≤ kf R i (k + 1) p := by
  unfold kf
  by_cases h1 : i ≤ p ∧ p < i + k
  · rw [if_pos h1, if_pos (by omega)]; exact Nat.le_refl _
  · rw [if_neg h1]; split
    · exact h
    · exact Nat.le_refl _
theorem kf_end {R : Nat → Nat} {i k p : Nat} (h : R i ≤ R (i + 1)) : kf R i k p ≤ R (i + 1) := by
  unfold kf; split
  · exact Nat.le_refl _
  · exact h
theorem kf_start {R : Nat → Nat} {i p : Nat} : R i ≤ kf R i 0 p := by unfold kf; rw [if_neg (by omega)]; exact Nat.le_refl _
/-- Rows of polynomials. -/
def prows (K n : Nat) (ns : Nat → Nat) (fs : Nat → Nat → Bool × List Nat) : Lf := .row 1 n fun p _ => arow K (ns p) (fs p)
def sumc (ns : Nat → Nat) (fs : Nat → Nat → Bool × List Nat) : Nat → Nat → Int
  | 0 => fun _ => 0
  | i + 1 => fadd (sumc ns fs i) (cfz (ns i) (fs i))
def prodc (ns : Nat → Nat) (fs : Nat → Nat → Bool × List Nat) : Nat → Nat → Int
  | 0 => lst [1]
  | i + 1 => conv (prodc ns fs i) (cfz (ns i) (fs i))
theorem cfz_z {n : Nat} {f : Nat → Bool × List Nat} : ∀ i, n ≤ i → cfz n f i = 0 := fun i hi => if_neg (by omega)
theorem lst_z {l : List Int} : ∀ i, l.length ≤ i → lst l i = 0 := fun i hi => by unfold lst; rw [List.getD_eq_getElem?_getD, List.getElem?_eq_none hi]; rfl
theorem sumc_z {ns : Nat → Nat} {fs : Nat → Nat → Bool × List Nat} {N : Nat} : ∀ {i : Nat}, (∀ p, p < i → ns p ≤ N) → ∀ j, N ≤ j → sumc ns fs i j = 0
  | 0, _, _, _ => rfl
  | i + 1, h, j, hj => by
    show sumc ns fs i j + cfz (ns i) (fs i) j = 0
    rw [sumc_z (fun p hp => h p (by omega)) j hj, cfz_z j (Nat.le_trans (h i (by omega)) hj)]; rfl
theorem prodc_z {ns : Nat → Nat} {fs : Nat → Nat → Bool × List Nat} {N : Nat} : ∀ {i : Nat}, (∀ p, p < i → ns p ≤ N) → ∀ j, i * N + 1 ≤ j → prodc ns fs i j = 0
  | 0, _, j, hj => lst_z j (by simpa using hj)
  | i + 1, h, j, hj => conv_beyond (prodc_z (fun p hp => h p (by omega))) (cfz_z (n := ns i)) (by have := h i (by omega); have h2 : (i + 1) * N = i * N + N := Nat.succ_mul i N; omega)
/-- Moved: step by step from the top. -/
def lin (x y : Int) : Nat → Int := fun i => if i = 0 then x else if i = 1 then y else 0
def onez (z : Int) : Nat → Int := fun i => if i = 0 then z else 0
def mvZ (a : Nat → Int) (x y : Int) (top : Nat) : Nat → Nat → Int
  | 0 => fun _ => 0
  | s + 1 => fadd (conv (mvZ a x y top s) (lin x y)) (onez (a (top - 1 - s) * y ^ s))
theorem lin_z {x y : Int} : ∀ i, 2 ≤ i → lin x y i = 0 := fun i hi => by unfold lin; rw [if_neg (by omega), if_neg (by omega)]
theorem onez_z {z : Int} : ∀ i, 1 ≤ i → onez z i = 0 := fun i hi => if_neg (by omega)
theorem mvZ_z {a : Nat → Int} {x y : Int} {top : Nat} : ∀ (s j : Nat), s ≤ j → mvZ a x y top s j = 0
  | 0, _, _ => rfl
  | s + 1, j, hj => by
    show conv (mvZ a x y top s) (lin x y) j + onez _ j = 0
    rw [conv_beyond (n := s) (m := 2) (mvZ_z s) lin_z (by omega), onez_z j (by omega)]; rfl
end Go.Proofs.Ytlkdlicbhhackaa

/-
  THE PLAIN RECKONING: small numbers, quotients, divisors, whether two are one; rationals.
-/
set_option linter.unusedVariables false
set_option linter.unusedSimpArgs false
namespace Go.Proofs.Ytlkdlicbhhackaa
open Go.RowKit

def del (xs : List Nat) : Nat → Nat → Lf := fun i _ => .v (.int .i64 ((xs.getD i 0 : Nat) : Int))
theorem digs_small {N : Nat} (h : N ≤ 9223372036854775808) : (digs4 N).length ≤ 5 := digs4_le (Nat.lt_of_le_of_lt h (by decide))
theorem digs_step {ds : List Nat} {R N : Nat} (hR : 0 < R) (h : ds ++ digs4 R = digs4 N) : (ds ++ [R % B4]) ++ digs4 (R / B4) = digs4 N := by
  rw [← h, digs4_pos (show R ≠ 0 by omega), List.append_assoc]; rfl
theorem digs_end {ds : List Nat} {R N : Nat} (hR : ¬ 0 < R) (h : ds ++ digs4 R = digs4 N) : ds = digs4 N := by
  obtain rfl : R = 0 := by omega
  rw [← h, show digs4 0 = [] from rfl, List.append_nil]
theorem del_app {e : TypeId} {ds : List Nat} {x m : Nat} {el2 : Nat → Nat → Lf} (hm : m = ds.length + 1) (h0 : el2 0 0 = .v (.int .i64 (x : Int)) := by rfl) : AO.le (.row e 1 (ds.length + 1) (appEl ds.length (del ds) el2)) (.row e 1 m (del (ds ++ [x]))) := by
  refine app_el hm (fun i hi j hj B w v hv => ?_) (fun j hj B w v hv => ?_)
  · unfold del at *; rw [List.getD_eq_getElem?_getD, List.getElem?_append_left hi, ← List.getD_eq_getElem?_getD]; exact hv
  · obtain rfl : j = 0 := by omega
    rw [h0] at hv
    unfold del; rw [List.getD_eq_getElem?_getD, List.getElem?_append_right (Nat.le_refl _), Nat.sub_self]; exact hv
/-- Cells one by one are a digit row. -/
theorem isd_row {n K N : Nat} {xs : List Nat} (hn : xs.length = n) (hx : xs = digs4 N) (hK : n ≤ K) : IsD (.row 1 n (del xs)) K N := by
  rintro B w c ⟨a, cap, rfl, h1, h2, h3⟩
  subst hn
  unfold dn
  rw [← hx]
  refine dr_R ⟨rfl, h1, h2, by rw [hx]; exact digs4_lt N, ?_⟩ hK (fun x hx' hne hb => ?_)
  · rcases Nat.eq_zero_or_pos xs.length with h0 | h0
    · have : xs = [] := List.eq_nil_of_length_eq_zero h0
      rw [this]; exact Or.inl rfl
    · obtain ⟨b, off, rfl, _, _, _⟩ := h3 0 h0
      refine Or.inr ⟨b, off, rfl, fun j hj => ?_⟩
      have hj' : j < xs.length := by simpa [ints] using hj
      obtain ⟨b', off', he', _, _, h4⟩ := h3 j hj'
      cases he'
      obtain ⟨x, hx1, hx2⟩ := h4 0 (by omega)
      obtain ⟨rfl, _⟩ := hx2
      rw [Nat.mul_one, Nat.add_zero] at hx1
      rw [hx1, ints_get]
      simp [hj']
  · obtain ⟨b, off, he', hb', _, _⟩ := h3 0 (List.length_pos_iff.2 hne)
    rw [he'] at hx'
    cases hx'
    exact hb' hb
theorem digs1 {m : Nat} : (digs4 m).length = 1 ∧ (digs4 m).getD 0 0 = 1 ↔ m = 1 := by
  constructor
  · rintro ⟨h1, h2⟩
    have h3 := val4_digs4 m
    match h : digs4 m, h1 with
    | [x], _ =>
      rw [h] at h2 h3
      simp at h2
      subst h2
      rw [← h3]; rfl
  · rintro rfl; rw [digs4_pos (by decide)]; exact ⟨rfl, rfl⟩
theorem quo_zv {x y : Int} (hd : y ∣ x) : zv (decide (x < 0) != decide (y < 0)) (x.natAbs / y.natAbs) = x / y := by
  obtain ⟨q, rfl⟩ := hd
  rcases Int.lt_trichotomy y 0 with hy | rfl | hy
  · rw [Int.natAbs_mul, Nat.mul_div_cancel_left _ (by omega), Int.mul_ediv_cancel_left _ (by omega)]
    rcases Int.lt_trichotomy q 0 with hq | rfl | hq
    · have := Int.mul_pos_of_neg_of_neg hy hq
      simp [zv, hy, show ¬ y * q < 0 from by omega]; omega
    · simp [zv]
    · have := Int.mul_neg_of_neg_of_pos hy hq
      simp [zv, hy, this]; omega
  · simp [zv]
  · rw [Int.natAbs_mul, Nat.mul_div_cancel_left _ (by omega), Int.mul_ediv_cancel_left _ (by omega)]
    rcases Int.lt_trichotomy q 0 with hq | rfl | hq
    · have := Int.mul_neg_of_pos_of_neg hy hq
      simp [zv, show ¬ y < 0 from by omega, this]; omega
    · simp [zv]
    · have := Int.mul_pos hy hq
      simp [zv, show ¬ y < 0 from by omega, show ¬ y * q < 0 from by omega]; omega

/-- A rational of the program, in any form; normal. -/
def IsT (ls : List Lf) (K : Nat) (n d : Int) : Prop := ∃ s xs t ys, (∀ B w cs, LsR B w ls cs → LsR B w ([.v (.bool s), lr K xs] ++ [.v (.bool t), lr K ys]) cs) ∧ zv s (val xs) = n ∧ zv t (val ys) = d
def tn (K : Nat) (q : Rat) : List Lf := zn K q.num ++ zn K (q.den : Int)
def IsTN (ls : List Lf) (K : Nat) (q : Rat) : Prop := ∀ B w cs, LsR B w ls cs → LsR B w (tn K q) cs
def cmpQ (x y : Rat) : Int := cmpZ (x.num * y.den) (y.num * x.den)
/-- A fraction (over 0: over 1). -/
def mkR (n d : Int) : Rat := Rat.divInt n (if d = 0 then 1 else d)
theorem mkR_pos {n d : Int} (h : 0 < d) : (Rat.divInt n d).num = n / ((Nat.gcd n.natAbs d.natAbs : Nat) : Int) ∧ ((Rat.divInt n d).den : Int) = d / ((Nat.gcd n.natAbs d.natAbs : Nat) : Int) := by
  obtain ⟨k, rfl⟩ := Int.eq_ofNat_of_zero_le (Int.le_of_lt h)
  have hk : k ≠ 0 := by rintro rfl; exact absurd h (by decide)
  rw [Rat.divInt_ofNat, ← Rat.normalize_eq_mkRat hk, Rat.normalize_eq hk]
  exact ⟨rfl, Int.natCast_ediv _ _⟩
theorem mkR_one (n : Int) : (Rat.divInt n 1).num = n ∧ ((Rat.divInt n 1).den : Int) = 1 := by
  have h := mkR_pos (n := n) (d := 1) (by decide)
  rw [show (Int.natAbs 1) = 1 from rfl, Nat.gcd_one_right] at h
  refine ⟨h.1.trans (Int.ediv_one n), h.2⟩
theorem gcd_dvd_l (n d : Int) : ((Nat.gcd n.natAbs d.natAbs : Nat) : Int) ∣ n := Int.dvd_natAbs.1 (Int.natCast_dvd_natCast.2 (Nat.gcd_dvd_left _ _))
theorem gcd_dvd_r (n d : Int) : ((Nat.gcd n.natAbs d.natAbs : Nat) : Int) ∣ d := Int.dvd_natAbs.1 (Int.natCast_dvd_natCast.2 (Nat.gcd_dvd_right _ _))
theorem gcd_nz {n d : Int} (h : d ≠ 0) : ((Nat.gcd n.natAbs d.natAbs : Nat) : Int) ≠ 0 := by
  have : Nat.gcd n.natAbs d.natAbs ≠ 0 := fun e => by
    have := (Nat.gcd_eq_zero_iff.1 e).2; omega
  omega
theorem den_ne (a : Rat) : (a.den : Int) ≠ 0 := by have := a.den_nz; omega
theorem mkR_ne {n d : Int} (h : d ≠ 0) : mkR n d = Rat.divInt n d := by unfold mkR; rw [if_neg h]
theorem mkR_add (a b : Rat) : mkR (a.num * b.den + b.num * a.den) (a.den * b.den) = a + b := by
  rw [mkR_ne (Int.mul_ne_zero (den_ne a) (den_ne b)), ← Rat.divInt_add_divInt _ _ (den_ne a) (den_ne b), Rat.num_divInt_den, Rat.num_divInt_den]
theorem mkR_mul (a b : Rat) : mkR (a.num * b.num) (a.den * b.den) = a * b := by
  rw [mkR_ne (Int.mul_ne_zero (den_ne a) (den_ne b)), ← Rat.divInt_mul_divInt, Rat.num_divInt_den, Rat.num_divInt_den]
theorem mkR_quo (a b : Rat) (h : b ≠ 0) : mkR (a.num * b.den) (a.den * b.num) = a / b := by
  have hb : b.num ≠ 0 := fun e => h (Rat.num_eq_zero.1 e)
  rw [mkR_ne (Int.mul_ne_zero (den_ne a) hb), ← Rat.divInt_mul_divInt, Rat.num_divInt_den, Rat.div_def, Rat.inv_def]
theorem mkR_int (n : Int) : mkR n 1 = (n : Rat) := by
  rw [mkR_ne (by decide)]
  exact Rat.ext (by rw [(mkR_one n).1, Rat.num_intCast]) (by have := (mkR_one n).2; rw [Rat.den_intCast]; omega)
set_option maxRecDepth 100000 in
set_option maxHeartbeats 4000000 in
theorem aROf {n : Int} (h1 : -9223372036854775808 ≤ n := by decide) (h2 : n ≤ 9223372036854775807 := by decide) : ACall Try.prog 85 [.one (.v (.int .i64 n))] (.d (.agg (rn 64 n))) := by
  refine acallN hTT 26 [.cell 2 42] Try.func85 rfl rfl rfl rfl rfl ?_
  refine cSeq ?_
  refine cReg ?_
  refine mN hTT (.box 42 ([.v (.slice none 0 0), .v (.bool false)])) rfl rfl rfl ?_
  refine mNil ?_
  refine tN ?_
  refine cSeq ?_
  refine cSeq ?_
  refine cReg ?_
  refine mV hTT _ rfl ?_
  refine mV hTT (.d (.one (.v (.bool (n == (-9223372036854775808)))))) rfl ?_
  refine mNil ?_
  refine tN ?_
  refine cCond rfl (fun hc1 => ?_) (fun hc1 => ?_)
  · skip
    refine cSeq ?_
    have hn : n = -9223372036854775808 := eq_of_beq hc1
    subst hn
    refine cReg ?_
    refine mC0 (aNPow (n := 63)) rfl rfl rfl ?_
    refine mC0 (aRMade (K := 64) (m := (2 ^ 63)) (neg := true) rfl) rfl rfl rfl ?_
    refine mS hTT 2 (.box 42 (rn 64 (zv true (2 ^ 63)))) rfl ?_
    refine mNil ?_
    refine tN ?_
    refine cRet ?_
    refine tR ?_
    exact rQ rfl (le_rn (by decide) (by decide))
  · skip
    refine cSkip ?_
    refine tN ?_
    refine cSeq ?_
    have hn : n ≠ -9223372036854775808 := fun e => by have h0 := hc1; rw [e] at h0; exact absurd h0 (by decide)
    have hN : n.natAbs ≤ 9223372036854775808 := by omega
    refine cReg ?_
    refine mV hTT _ rfl ?_
    refine mV hTT (.d (.one (.v (.bool (decide (n < 0)))))) rfl ?_
    refine mV hTT _ rfl ?_
    refine mNil ?_
    refine tN ?_
    refine cSeq ?_
    refine cSeq ?_
    refine cReg ?_
    refine mV hTT _ rfl ?_
    refine mNil ?_
    refine tN ?_
    refine cCond rfl (fun hc2 => ?_) (fun hc2 => ?_)
    · skip
      refine cReg ?_
      refine mV hTT _ rfl ?_
      refine mV hTT (.d (.one (.v (.int .i64 (n.natAbs : Int))))) (evi (show IntKind.i64.wrap (0 - n) = _ from by have h0 := of_decide_eq_true hc2; rw [wr64]; omega)) ?_
      refine mV hTT _ rfl ?_
      refine mNil ?_
      refine tN ?_
      refine cSeq ?_
      refine cReg ?_
      refine mV hTT _ rfl ?_
      refine mNil ?_
      refine tN ?_
      refine cSeq ?_
      refine cBlock ?_
      refine AW.wk (wkNil 4 4 3 1 (fun _ _ => .v undef) rfl rfl) ?_
      refine cLoop (ι := List Nat × Nat) (fun (p : List Nat × Nat) => match p with | (ds, R) => ⟨26, [(0, .d (.one (.v (.int .i64 ((R : Nat) : Int))))), (3, .d (.one (.v (.bool (decide (n < 0)))))), (2, .ptr 2 0), (4, .own 4)], [(2, .box 42 ([.v (.slice none 0 0), .v (.bool false)])), (4, .row 3 1 ds.length (del ds))]⟩) (fun (p : List Nat × Nat) => match p with | (ds, R) => ds ++ digs4 R = digs4 n.natAbs ∧ R ≤ 9223372036854775808 - 1) (fun (p : List Nat × Nat) => match p with | (ds, R) => R) ([], n.natAbs) (⟨rfl, by omega⟩) (wk (sl := [(0, .d (.one (.v (.int .i64 ((n.natAbs : Nat) : Int))))), (3, .d (.one (.v (.bool (decide (n < 0)))))), (2, .ptr 2 0), (4, .own 4)]) (hp := [(2, .box 42 ([.v (.slice none 0 0), .v (.bool false)])), (4, .row 3 1 (([]).length) (del ([])))]) rfl ⟨hs' rfl (le_int (rfl)), hs rfl, hs rfl, hs rfl, trivial⟩ ⟨ho rfl, ho' rfl (leo_row0), trivial⟩ rfl) ?_
      rintro ⟨ds, R⟩ hI
      obtain ⟨hd, hR9⟩ : ds ++ digs4 R = digs4 n.natAbs ∧ R ≤ 9223372036854775808 - 1 := hI
      show AW Try.prog _ _ ⟨26, [(0, .d (.one (.v (.int .i64 ((R : Nat) : Int))))), (3, .d (.one (.v (.bool (decide (n < 0)))))), (2, .ptr 2 0), (4, .own 4)], [(2, .box 42 ([.v (.slice none 0 0), .v (.bool false)])), (4, .row 3 1 ds.length (del ds))]⟩
      refine cSeq ?_
      refine cSeq ?_
      refine cReg ?_
      refine mV hTT _ rfl ?_
      refine mV hTT (.d (.one (.v (.bool (decide (((R : Nat) : Int) > 0)))))) rfl ?_
      refine mNil ?_
      refine tN ?_
      refine cCond rfl (fun hc3 => ?_) (fun hc3 => ?_)
      · skip
        refine cSkip ?_
        refine tN ?_
        refine cBlock ?_
        refine cSeq ?_
        have hR : 0 < R := by have h0 := of_decide_eq_true hc3; omega
        have hlen : ds.length ≤ 5 := by have h0 := digs_small hN; rw [← hd, List.length_append] at h0; omega
        refine cReg ?_
        refine mV hTT _ rfl ?_
        refine mV hTT _ rfl ?_
        refine mV hTT (.d (.one (.v (.int .i64 ((R % 10000 : Nat) : Int))))) rfl ?_
        refine mB hTT (.d (.one (.row 1 1 (fun i' j' => (([.v (.int .i64 ((R % 10000 : Nat) : Int))])[i' * 1 + j']?).getD (.v undef))))) rfl ?_
        refine mA hTT (id := 4) (n := ds.length) (m := 1) (el := (del ds)) (el2 := (fun i' j' => (([.v (.int .i64 ((R % 10000 : Nat) : Int))])[i' * 1 + j']?).getD (.v undef))) rfl rfl rfl (by show (ds.length + 1) * 8 ≤ 140737488355328; omega) (by omega) rfl rfl rfl rfl rfl rfl rfl rfl rfl rfl ?_
        refine mV hTT _ rfl ?_
        refine mNil ?_
        refine tN ?_
        refine cReg ?_
        refine mV hTT _ rfl ?_
        refine mV hTT (.d (.one (.v (.int .i64 (IntKind.i64.wrap (Int.tdiv (R : Int) 10000)))))) rfl ?_
        refine mV hTT _ rfl ?_
        refine mNil ?_
        refine bN ?_
        exact ⟨((ds ++ [R % 10000]), (R / 10000)), ⟨digs_step hR hd, by omega⟩, by show R / 10000 < R; omega, wk (sl := [(0, .d (.one (.v (.int .i64 (((R / 10000) : Nat) : Int))))), (3, .d (.one (.v (.bool (decide (n < 0)))))), (2, .ptr 2 0), (4, .own 4)]) (hp := [(2, .box 42 ([.v (.slice none 0 0), .v (.bool false)])), (4, .row 3 1 ((ds ++ [R % 10000]).length) (del (ds ++ [R % 10000])))]) rfl ⟨hs' rfl (le_int (show IntKind.i64.wrap (Int.tdiv (R : Int) 10000) = _ from by rw [show Int.tdiv (R : Int) 10000 = ((R / 10000 : Nat) : Int) from rfl]; exact wr64 (by omega) (by omega))), hs rfl, hs rfl, hs rfl, trivial⟩ ⟨ho rfl, ho' rfl (del_app (by simp)), trivial⟩ rfl⟩
      · skip
        refine cExit ?_
        refine tE ?_
        refine tE ?_
        refine bE ?_
        refine tN ?_
        refine cSeq ?_
        have hde : ds = digs4 n.natAbs := digs_end (by have h0 := of_decide_eq_false hc3; omega) hd
        refine AW.wk (wkRow 4 rfl) ?_
        refine cView 4 (.d (.one (dn 5 n.natAbs))) rfl (le_one (isd_row rfl hde (by rw [hde]; exact digs_small hN))) ?_
        refine cReg ?_
        refine mV hTT _ rfl ?_
        refine mV hTT _ rfl ?_
        refine mC0 (aRMade (K := 5) (m := n.natAbs) (neg := decide (n < 0)) rfl) rfl rfl rfl ?_
        refine mS hTT 2 (.box 42 (rn 5 (zv (decide (n < 0)) n.natAbs))) rfl ?_
        refine mNil ?_
        refine tN ?_
        refine cRet ?_
        exact rQ rfl (le_rn (by decide) (zv_natAbs n))
    · skip
      refine cSkip ?_
      refine tN ?_
      refine cSeq ?_
      refine cReg ?_
      refine mV hTT _ rfl ?_
      refine mNil ?_
      refine tN ?_
      refine cSeq ?_
      refine cBlock ?_
      refine AW.wk (wkNil 4 4 3 1 (fun _ _ => .v undef) rfl rfl) ?_
      refine cLoop (ι := List Nat × Nat) (fun (p : List Nat × Nat) => match p with | (ds, R) => ⟨26, [(0, .d (.one (.v (.int .i64 ((R : Nat) : Int))))), (3, .d (.one (.v (.bool (decide (n < 0)))))), (2, .ptr 2 0), (4, .own 4)], [(2, .box 42 ([.v (.slice none 0 0), .v (.bool false)])), (4, .row 3 1 ds.length (del ds))]⟩) (fun (p : List Nat × Nat) => match p with | (ds, R) => ds ++ digs4 R = digs4 n.natAbs ∧ R ≤ 9223372036854775808 - 1) (fun (p : List Nat × Nat) => match p with | (ds, R) => R) ([], n.natAbs) (⟨rfl, by omega⟩) (wk (sl := [(0, .d (.one (.v (.int .i64 ((n.natAbs : Nat) : Int))))), (3, .d (.one (.v (.bool (decide (n < 0)))))), (2, .ptr 2 0), (4, .own 4)]) (hp := [(2, .box 42 ([.v (.slice none 0 0), .v (.bool false)])), (4, .row 3 1 (([]).length) (del ([])))]) rfl ⟨hs' rfl (le_int (by have h0 := of_decide_eq_false hc2; omega)), hs rfl, hs rfl, hs rfl, trivial⟩ ⟨ho rfl, ho' rfl (leo_row0), trivial⟩ rfl) ?_
      rintro ⟨ds, R⟩ hI
      obtain ⟨hd, hR9⟩ : ds ++ digs4 R = digs4 n.natAbs ∧ R ≤ 9223372036854775808 - 1 := hI
      show AW Try.prog _ _ ⟨26, [(0, .d (.one (.v (.int .i64 ((R : Nat) : Int))))), (3, .d (.one (.v (.bool (decide (n < 0)))))), (2, .ptr 2 0), (4, .own 4)], [(2, .box 42 ([.v (.slice none 0 0), .v (.bool false)])), (4, .row 3 1 ds.length (del ds))]⟩
      refine cSeq ?_
      refine cSeq ?_
      refine cReg ?_
      refine mV hTT _ rfl ?_
      refine mV hTT (.d (.one (.v (.bool (decide (((R : Nat) : Int) > 0)))))) rfl ?_
      refine mNil ?_
      refine tN ?_
      refine cCond rfl (fun hc4 => ?_) (fun hc4 => ?_)
      · skip
        refine cSkip ?_
        refine tN ?_
        refine cBlock ?_
        refine cSeq ?_
        have hR : 0 < R := by have h0 := of_decide_eq_true hc4; omega
        have hlen : ds.length ≤ 5 := by have h0 := digs_small hN; rw [← hd, List.length_append] at h0; omega
        refine cReg ?_
        refine mV hTT _ rfl ?_
        refine mV hTT _ rfl ?_
        refine mV hTT (.d (.one (.v (.int .i64 ((R % 10000 : Nat) : Int))))) rfl ?_
        refine mB hTT (.d (.one (.row 1 1 (fun i' j' => (([.v (.int .i64 ((R % 10000 : Nat) : Int))])[i' * 1 + j']?).getD (.v undef))))) rfl ?_
        refine mA hTT (id := 4) (n := ds.length) (m := 1) (el := (del ds)) (el2 := (fun i' j' => (([.v (.int .i64 ((R % 10000 : Nat) : Int))])[i' * 1 + j']?).getD (.v undef))) rfl rfl rfl (by show (ds.length + 1) * 8 ≤ 140737488355328; omega) (by omega) rfl rfl rfl rfl rfl rfl rfl rfl rfl rfl ?_
        refine mV hTT _ rfl ?_
        refine mNil ?_
        refine tN ?_
        refine cReg ?_
        refine mV hTT _ rfl ?_
        refine mV hTT (.d (.one (.v (.int .i64 (IntKind.i64.wrap (Int.tdiv (R : Int) 10000)))))) rfl ?_
        refine mV hTT _ rfl ?_
        refine mNil ?_
        refine bN ?_
        exact ⟨((ds ++ [R % 10000]), (R / 10000)), ⟨digs_step hR hd, by omega⟩, by show R / 10000 < R; omega, wk (sl := [(0, .d (.one (.v (.int .i64 (((R / 10000) : Nat) : Int))))), (3, .d (.one (.v (.bool (decide (n < 0)))))), (2, .ptr 2 0), (4, .own 4)]) (hp := [(2, .box 42 ([.v (.slice none 0 0), .v (.bool false)])), (4, .row 3 1 ((ds ++ [R % 10000]).length) (del (ds ++ [R % 10000])))]) rfl ⟨hs' rfl (le_int (show IntKind.i64.wrap (Int.tdiv (R : Int) 10000) = _ from by rw [show Int.tdiv (R : Int) 10000 = ((R / 10000 : Nat) : Int) from rfl]; exact wr64 (by omega) (by omega))), hs rfl, hs rfl, hs rfl, trivial⟩ ⟨ho rfl, ho' rfl (del_app (by simp)), trivial⟩ rfl⟩
      · skip
        refine cExit ?_
        refine tE ?_
        refine tE ?_
        refine bE ?_
        refine tN ?_
        refine cSeq ?_
        have hde : ds = digs4 n.natAbs := digs_end (by have h0 := of_decide_eq_false hc4; omega) hd
        refine AW.wk (wkRow 4 rfl) ?_
        refine cView 4 (.d (.one (dn 5 n.natAbs))) rfl (le_one (isd_row rfl hde (by rw [hde]; exact digs_small hN))) ?_
        refine cReg ?_
        refine mV hTT _ rfl ?_
        refine mV hTT _ rfl ?_
        refine mC0 (aRMade (K := 5) (m := n.natAbs) (neg := decide (n < 0)) rfl) rfl rfl rfl ?_
        refine mS hTT 2 (.box 42 (rn 5 (zv (decide (n < 0)) n.natAbs))) rfl ?_
        refine mNil ?_
        refine tN ?_
        refine cRet ?_
        exact rQ rfl (le_rn (by decide) (zv_natAbs n))

set_option maxRecDepth 100000 in
set_option maxHeartbeats 4000000 in
theorem aRQuo {a b : List Lf} {K L M : Nat} {x y : Int} (ha : IsR a K x) (hb : IsR b L y) (hy : y ≠ 0) (hd : y ∣ x) (hM : K ≤ M := by decide) (hK : K ≤ 100000000 := by decide) (hL : L ≤ 100000000 := by decide) : ACall Try.prog 103 [.agg a, .agg b] (.d (.agg (rn M (x / y)))) := by
  refine ACall.le (dl (DV.g ha) (dl (DV.g hb) dl0)) AV.le.rfl ?_
  refine acallN hTT 22 [.cell 4 42] Try.func103 rfl rfl rfl rfl rfl ?_
  refine cSeq ?_
  refine cReg ?_
  refine mN hTT (.box 42 (rn K x)) rfl rfl rfl ?_
  refine mN hTT (.box 42 (rn L y)) rfl rfl rfl ?_
  refine mN hTT (.box 42 ([.v (.slice none 0 0), .v (.bool false)])) rfl rfl rfl ?_
  refine mNil ?_
  refine tN ?_
  refine cSeq ?_
  refine cReg ?_
  refine mV hTT (.ptr 2 0) rfl ?_
  refine mV hTT (.d (.one (dn K x.natAbs))) rfl ?_
  refine mV hTT (.ptr 3 0) rfl ?_
  refine mV hTT (.d (.one (dn L y.natAbs))) rfl ?_
  refine mC0 (aNDiv (isd K x.natAbs) (isd L y.natAbs) (by omega) (by omega) (by omega)) rfl rfl rfl ?_
  refine mV hTT _ rfl ?_
  refine mV hTT _ rfl ?_
  refine mV hTT _ rfl ?_
  refine mV hTT _ rfl ?_
  refine mV hTT _ rfl ?_
  refine mNil ?_
  refine tN ?_
  refine cSeq ?_
  refine cReg ?_
  refine mV hTT _ rfl ?_
  refine mV hTT (.ptr 2 1) rfl ?_
  refine mV hTT (.d (.one (.v (.bool (decide (x < 0)))))) rfl ?_
  refine mV hTT (.ptr 3 1) rfl ?_
  refine mV hTT (.d (.one (.v (.bool (decide (y < 0)))))) rfl ?_
  refine mV hTT (.d (.one (.v (.bool (!((decide (x < 0)) == (decide (y < 0)))))))) rfl ?_
  refine mC0 (aRMade (K := K) (m := (x.natAbs / y.natAbs)) (neg := !((decide (x < 0)) == (decide (y < 0)))) rfl) rfl rfl rfl ?_
  refine mS hTT 4 (.box 42 (rn K (zv (!((decide (x < 0)) == (decide (y < 0)))) (x.natAbs / y.natAbs)))) rfl ?_
  refine mNil ?_
  refine tN ?_
  refine cRet ?_
  exact rQ rfl (le_rn hM (quo_zv hd))

set_option maxRecDepth 100000 in
set_option maxHeartbeats 4000000 in
theorem aRGcd {a b : List Lf} {K L M : Nat} {x y : Int} (ha : IsR a K x) (hb : IsR b L y) (hM : max K L ≤ M := by decide) (hMM : M ≤ 100000000 := by decide)  : ACall Try.prog 102 [.agg a, .agg b] (.d (.agg (rn M ((Nat.gcd x.natAbs y.natAbs : Nat) : Int)))) := by
  refine ACall.le (dl (DV.g ha) (dl (DV.g hb) dl0)) AV.le.rfl ?_
  refine acallN hTT 26 [.cell 4 42] Try.func102 rfl rfl rfl rfl rfl ?_
  refine cSeq ?_
  refine cReg ?_
  refine mN hTT (.box 42 (rn K x)) rfl rfl rfl ?_
  refine mN hTT (.box 42 (rn L y)) rfl rfl rfl ?_
  refine mN hTT (.box 42 ([.v (.slice none 0 0), .v (.bool false)])) rfl rfl rfl ?_
  refine mNil ?_
  refine tN ?_
  refine cSeq ?_
  refine cDrawK hTT 6 (by kernel_rfl) (by kernel_rfl) (by kernel_rfl) ?_
  refine .cons (OpS.V (.ptr 2 0) rfl) ?_
  refine .cons (OpS.V (.d (.one (dn K x.natAbs))) rfl) ?_
  refine .cons (OpS.V (.ptr 3 0) rfl) ?_
  refine .cons (OpS.V (.d (.one (dn L y.natAbs))) rfl) ?_
  refine .cons (OpS.V _ rfl) ?_
  refine .cons (OpS.V _ rfl) ?_
  refine .nil ?_
  refine mNil ?_
  refine tN ?_
  refine cSeq ?_
  refine cBlock ?_
  refine cLoop (ι := Nat × Nat) (fun (p : Nat × Nat) => match p with | (u, v) => ⟨26, [(4, .ptr 4 0), (5, .d (.one (dn M u))), (6, .d (.one (dn M v)))], [(4, .box 42 ([.v (.slice none 0 0), .v (.bool false)]))]⟩) (fun (p : Nat × Nat) => match p with | (u, v) => Nat.gcd u v = Nat.gcd x.natAbs y.natAbs) (fun (p : Nat × Nat) => match p with | (u, v) => v) (x.natAbs, y.natAbs) (rfl) (wk (sl := [(4, .ptr 4 0), (5, .d (.one (dn M x.natAbs))), (6, .d (.one (dn M y.natAbs)))]) (hp := [(4, .box 42 ([.v (.slice none 0 0), .v (.bool false)]))]) rfl ⟨hs rfl, hs' rfl (le_one (dr_mono (Nat.le_trans (Nat.le_max_left K L) hM))), hs' rfl (le_one (dr_mono (Nat.le_trans (Nat.le_max_right K L) hM))), trivial⟩ ⟨ho rfl, trivial⟩ rfl) ?_
  rintro ⟨u, v⟩ hI
  have hg : Nat.gcd u v = Nat.gcd x.natAbs y.natAbs := hI
  show AW Try.prog _ _ ⟨26, [(4, .ptr 4 0), (5, .d (.one (dn M u))), (6, .d (.one (dn M v)))], [(4, .box 42 ([.v (.slice none 0 0), .v (.bool false)]))]⟩
  refine cSeq ?_
  refine cSeq ?_
  refine cReg ?_
  refine mV hTT _ rfl ?_
  refine mV hTT (.d (.one (.v (.int .i64 ((digs4 v).length : Int))))) rfl ?_
  refine mV hTT (.d (.one (.v (.bool (decide (((digs4 v).length : Int) > 0)))))) rfl ?_
  refine mNil ?_
  refine tN ?_
  refine cCond rfl (fun hc1 => ?_) (fun hc1 => ?_)
  · skip
    refine cSkip ?_
    refine tN ?_
    refine cBlock ?_
    refine cSeq ?_
    have hy0 : 0 < v := by rcases Nat.eq_zero_or_pos v with e | e; exact absurd (of_decide_eq_true hc1) (by rw [e]; decide); exact e
    refine cReg ?_
    refine mV hTT _ rfl ?_
    refine mV hTT _ rfl ?_
    refine mC0 (aNDiv (isd M u) (isd M v) hy0 (by omega) (by omega)) rfl rfl rfl ?_
    refine mV hTT _ rfl ?_
    refine mV hTT _ rfl ?_
    refine mV hTT _ rfl ?_
    refine mV hTT _ rfl ?_
    refine mV hTT _ rfl ?_
    refine mNil ?_
    refine tN ?_
    refine cReg ?_
    refine mV hTT _ rfl ?_
    refine mV hTT _ rfl ?_
    refine mV hTT _ rfl ?_
    refine mV hTT _ rfl ?_
    refine mNil ?_
    refine bN ?_
    exact ⟨(v, (u % v)), by show Nat.gcd v (u % v) = _; rw [← hg, Nat.gcd_comm u v, Nat.gcd_rec v u, Nat.gcd_comm], by show u % v < v; exact Nat.mod_lt _ hy0, wk (sl := [(4, .ptr 4 0), (5, .d (.one (dn M v))), (6, .d (.one (dn M (u % v))))]) (hp := [(4, .box 42 ([.v (.slice none 0 0), .v (.bool false)]))]) rfl ⟨hs rfl, hs rfl, hs rfl, trivial⟩ ⟨ho rfl, trivial⟩ rfl⟩
  · skip
    refine cExit ?_
    refine tE ?_
    refine tE ?_
    refine bE ?_
    refine tN ?_
    refine cSeq ?_
    have hy0 : v = 0 := by have h0 := of_decide_eq_false hc1; have h1 := digs_len v; omega
    have hu : u = Nat.gcd x.natAbs y.natAbs := by rw [← hg, hy0, Nat.gcd_zero_right]
    refine cReg ?_
    refine mV hTT _ rfl ?_
    refine mV hTT (.d (.agg ([dn M u, .v (.bool false)]))) rfl ?_
    refine mS hTT 4 (.box 42 ([dn M u, .v (.bool false)])) rfl ?_
    refine mNil ?_
    refine tN ?_
    refine cRet ?_
    exact rQ rfl (le_rmade (by simp) (by rw [hu]; rfl))

theorem leo_znrow {t : TypeId} {K : Nat} {z : Int} : AO.le (.box t (zn K z)) (.box t [.v (.bool (decide (z < 0))), .row 1 (limbs z.natAbs).length fun i _ => .v (.int .u32 (((limbs z.natAbs).getD i 0 : Nat) : Int))]) := leo_box fun B w cs h => match cs, h with | [_, _], ⟨h1, h2, h3⟩ => ⟨h1, le_lrow K _ (fun _ => none) B w _ h2, h3⟩
theorem len_K {B : BS} {w : World} {K m : Nat} {v : Value} (h : LfR B w (ln K m) v) : (limbs m).length ≤ K := by obtain ⟨a, n, c, rfl, hr, hn, _⟩ := lr_of h; rw [hr.len]; exact hn
theorem same_len {B : BS} {w : World} {K L : Nat} {x : Int} {vs : List Value} (h : DsR B w [.agg (rn K x), .agg (zn L x)] vs) : (limbs x.natAbs).length ≤ L := by
  match vs, h with
  | [_, _], ⟨_, ⟨cs, rfl, h⟩, _⟩ =>
    match cs, h with
    | [_, _], ⟨_, h, _⟩ => exact len_K h
set_option maxRecDepth 100000 in
set_option maxHeartbeats 4000000 in
theorem aRSame {a b : List Lf} {K L : Nat} {x : Int} (ha : IsR a K x) (hb : IsN b L x) (hK : K ≤ 1000000000 := by decide) (hL : L ≤ 1000000000 := by decide) : ACall Try.prog 74 [.agg a, .agg b] (.d (.one (.v (.bool true)))) := by
  refine ACall.le (dl (DV.g ha) (dl (DV.g hb) dl0)) AV.le.rfl ?_
  refine ACall.fact (p := (limbs x.natAbs).length ≤ L) (enters Try.func74 rfl rfl) (fun B w vs h => same_len h) (fun hB => ?_)
  refine acallN hTT 39 [.tmp 4] Try.func74 rfl rfl rfl rfl rfl ?_
  refine cSeq ?_
  refine cReg ?_
  refine mN hTT (.box 42 (rn K x)) rfl rfl rfl ?_
  refine mN hTT (.box 36 (zn L x)) rfl rfl rfl ?_
  refine mV hTT _ rfl ?_
  refine mNil ?_
  refine tN ?_
  refine cSeq ?_
  refine cReg ?_
  refine mV hTT (.ptr 2 0) rfl ?_
  refine mV hTT (.d (.one (dn K x.natAbs))) rfl ?_
  refine mC0 (aNTo (isd K x.natAbs) (by omega)) rfl rfl rfl ?_
  refine mV hTT _ rfl ?_
  refine mNil ?_
  refine tN ?_
  refine cSeq ?_
  refine cSeq ?_
  refine cReg ?_
  refine mV hTT (.ptr 2 1) rfl ?_
  refine mV hTT (.d (.one (.v (.bool (decide (x < 0)))))) rfl ?_
  refine mV hTT (.ptr 3 0) rfl ?_
  refine mV hTT (.d (.one (.v (.bool (decide (x < 0)))))) rfl ?_
  refine mV hTT (.d (.one (.v (.bool false)))) (evb (by simp)) ?_
  refine mV hTT _ rfl ?_
  refine mV hTT _ rfl ?_
  refine mV hTT (.d (.one (.v (.int .i64 ((limbs x.natAbs).length : Int))))) rfl ?_
  refine mV hTT (.ptr 3 1) rfl ?_
  refine mV hTT (.d (.one (ln L x.natAbs))) rfl ?_
  refine mV hTT (.d (.one (.v (.int .i64 ((limbs x.natAbs).length : Int))))) rfl ?_
  refine mV hTT (.d (.one (.v (.bool false)))) (evb (by simp)) ?_
  refine mV hTT _ rfl ?_
  refine mNil ?_
  refine tN ?_
  refine cF rfl ?_
  refine cSkip ?_
  refine tN ?_
  refine cSeq ?_
  refine cSeq ?_
  refine cView 5 (.d (.one (.row 1 ((limbs x.natAbs).length) (fun i _ => .v (.int .u32 (((limbs x.natAbs).getD i 0 : Nat) : Int)))))) rfl (le_lrow _ _) ?_
  refine cReg ?_
  refine mV hTT _ rfl ?_
  refine mV hTT (.d (.one (.v (.int .i64 (((limbs x.natAbs).length : Nat) : Int))))) rfl ?_
  refine mV hTT _ rfl ?_
  refine mNil ?_
  refine tN ?_
  refine cBlock ?_
  refine cLoop (ι := Nat) (fun (i : Nat) => ⟨39, [(3, .ptr 3 0), (5, .d (.one (.row 1 ((limbs x.natAbs).length) (fun i _ => .v (.int .u32 (((limbs x.natAbs).getD i 0 : Nat) : Int)))))), (24, .d (.one (.v (.int .i64 ((limbs x.natAbs).length : Int))))), (25, .d (.one (.v (.int .i64 ((i : Nat) : Int)))))], [(3, .box 36 ([.v (.bool (decide (x < 0))), .row 1 ((limbs x.natAbs).length) (fun i _ => .v (.int .u32 (((limbs x.natAbs).getD i 0 : Nat) : Int)))]))]⟩) (fun (i : Nat) => True) (fun (i : Nat) => (limbs x.natAbs).length - i) 0 (trivial) (wk (sl := [(3, .ptr 3 0), (5, .d (.one (.row 1 ((limbs x.natAbs).length) (fun i _ => .v (.int .u32 (((limbs x.natAbs).getD i 0 : Nat) : Int)))))), (24, .d (.one (.v (.int .i64 ((limbs x.natAbs).length : Int))))), (25, .d (.one (.v (.int .i64 ((0 : Nat) : Int)))))]) (hp := [(3, .box 36 ([.v (.bool (decide (x < 0))), .row 1 ((limbs x.natAbs).length) (fun i _ => .v (.int .u32 (((limbs x.natAbs).getD i 0 : Nat) : Int)))]))]) rfl ⟨hs rfl, hs rfl, hs rfl, hs rfl, trivial⟩ ⟨ho' rfl (leo_znrow), trivial⟩ rfl) ?_
  rintro i hI
  have hT0 : True := hI
  show AW Try.prog _ _ ⟨39, [(3, .ptr 3 0), (5, .d (.one (.row 1 ((limbs x.natAbs).length) (fun i _ => .v (.int .u32 (((limbs x.natAbs).getD i 0 : Nat) : Int)))))), (24, .d (.one (.v (.int .i64 ((limbs x.natAbs).length : Int))))), (25, .d (.one (.v (.int .i64 ((i : Nat) : Int)))))], [(3, .box 36 ([.v (.bool (decide (x < 0))), .row 1 ((limbs x.natAbs).length) (fun i _ => .v (.int .u32 (((limbs x.natAbs).getD i 0 : Nat) : Int)))]))]⟩
  refine cSeq ?_
  refine cReg ?_
  refine mV hTT (.d (.one (.v (.bool (decide (((i : Nat) : Int) < ((limbs x.natAbs).length : Int))))))) rfl ?_
  refine mNil ?_
  refine tN ?_
  refine cSeq ?_
  refine cCond rfl (fun hc1 => ?_) (fun hc1 => ?_)
  · skip
    refine cSkip ?_
    refine tN ?_
    refine cSeq ?_
    refine cBlock ?_
    refine cSeq ?_
    have hi : i < (limbs x.natAbs).length := by have h0 := of_decide_eq_true hc1; omega
    refine cReg ?_
    refine mV hTT _ rfl ?_
    refine mV hTT _ rfl ?_
    refine mNil ?_
    refine tN ?_
    refine cSeq ?_
    refine cDrawK hTT 10 (by kernel_rfl) (by kernel_rfl) (by kernel_rfl) ?_
    refine .cons (OpS.V _ rfl) ?_
    refine .cons (OpS.V _ rfl) ?_
    refine .cons (OpS.V (.d (.one (.at 1 ((fun i _ => .v (.int .u32 (((limbs x.natAbs).getD i 0 : Nat) : Int))) i)))) (ixR (el := (fun i _ => .v (.int .u32 (((limbs x.natAbs).getD i 0 : Nat) : Int)))) (z := ((i : Nat) : Int)) (n := ((limbs x.natAbs).length)) rfl rfl rfl rfl rfl rfl (by omega) (by omega))) ?_
    refine .cons (OpS.V (.d (.one (.v (.int .u32 (((limbs x.natAbs).getD i 0 : Nat) : Int))))) rfl) ?_
    refine .cons (OpS.V (.ptr 3 1) rfl) ?_
    refine .cons (OpS.V (.d (.one (.row 1 ((limbs x.natAbs).length) (fun i _ => .v (.int .u32 (((limbs x.natAbs).getD i 0 : Nat) : Int)))))) rfl) ?_
    refine .cons (OpS.V _ rfl) ?_
    refine .cons (OpS.V (.d (.one (.at 1 ((fun i _ => .v (.int .u32 (((limbs x.natAbs).getD i 0 : Nat) : Int))) i)))) (ixR (el := (fun i _ => .v (.int .u32 (((limbs x.natAbs).getD i 0 : Nat) : Int)))) (z := ((i : Nat) : Int)) (n := ((limbs x.natAbs).length)) rfl rfl rfl rfl rfl rfl (by omega) (by omega))) ?_
    refine .cons (OpS.V (.d (.one (.v (.int .u32 (((limbs x.natAbs).getD i 0 : Nat) : Int))))) rfl) ?_
    refine .cons (OpS.V (.d (.one (.v (.bool false)))) (evb (bne_self_eq_false _))) ?_
    refine .nil ?_
    refine mNil ?_
    refine tN ?_
    refine cF rfl ?_
    refine cSkip ?_
    refine bN ?_
    refine tN ?_
    refine cReg ?_
    refine mV hTT (.d (.one (.v (.int .i64 (IntKind.i64.wrap (((i : Nat) : Int) + 1)))))) rfl ?_
    refine mV hTT _ rfl ?_
    refine mNil ?_
    exact ⟨(i + 1), trivial, by omega, wk (sl := [(3, .ptr 3 0), (5, .d (.one (.row 1 ((limbs x.natAbs).length) (fun i _ => .v (.int .u32 (((limbs x.natAbs).getD i 0 : Nat) : Int)))))), (24, .d (.one (.v (.int .i64 ((limbs x.natAbs).length : Int))))), (25, .d (.one (.v (.int .i64 (((i + 1) : Nat) : Int)))))]) (hp := [(3, .box 36 ([.v (.bool (decide (x < 0))), .row 1 ((limbs x.natAbs).length) (fun i _ => .v (.int .u32 (((limbs x.natAbs).getD i 0 : Nat) : Int)))]))]) rfl ⟨hs rfl, hs rfl, hs rfl, hs' rfl (le_int (inc64 (by omega))), trivial⟩ ⟨ho rfl, trivial⟩ rfl⟩
  · skip
    refine cExit ?_
    refine tE ?_
    refine tE ?_
    refine bE ?_
    refine tN ?_
    refine cSeq ?_
    refine cReg ?_
    refine mV hTT _ rfl ?_
    refine mNil ?_
    refine tN ?_
    refine cRet ?_
    exact rQ rfl (AV.le.rfl)

set_option maxRecDepth 100000 in
set_option maxHeartbeats 4000000 in
theorem aRMake {a b : List Lf} {K L M : Nat} {n d : Int} (ha : IsR a K n) (hb : IsR b L d) (hM : max K (max L 64) ≤ M := by decide) (hMM : M ≤ 100000000 := by decide) : ACall Try.prog 88 [.agg a, .agg b] (.d (.agg (qn M (mkR n d)))) := by
  refine ACall.le (dl (DV.g ha) (dl (DV.g hb) dl0)) AV.le.rfl ?_
  refine acallN hTT 39 [.cell 4 68] Try.func88 rfl rfl rfl rfl rfl ?_
  refine cSeq ?_
  refine cReg ?_
  refine mN hTT (.box 42 (rn K n)) rfl rfl rfl ?_
  refine mN hTT (.box 42 (rn L d)) rfl rfl rfl ?_
  refine mN hTT (.box 68 ([.v (.slice none 0 0), .v (.bool false), .v (.slice none 0 0), .v (.bool false)])) rfl rfl rfl ?_
  refine mNil ?_
  refine tN ?_
  refine cSeq ?_
  refine cSeq ?_
  refine cReg ?_
  refine mV hTT (.d (.agg (rn L d))) rfl ?_
  refine mC0 (aRZero (isr L d)) rfl rfl rfl ?_
  refine mNil ?_
  refine tN ?_
  refine cCond rfl (fun hc1 => ?_) (fun hc1 => ?_)
  · skip
    refine cReg ?_
    refine mC0 (aROf (n := 1) (by decide) (by decide)) rfl rfl rfl ?_
    refine mS hTT 3 (.box 42 (rn 64 1)) rfl ?_
    refine mNil ?_
    refine tN ?_
    refine cSeq ?_
    refine cSeq ?_
    have hd0 : d = 0 := of_decide_eq_true hc1
    refine cReg ?_
    refine mV hTT (.ptr 3 1) rfl ?_
    refine mV hTT (.d (.one (.v (.bool false)))) rfl ?_
    refine mNil ?_
    refine tN ?_
    refine cF rfl ?_
    refine cSkip ?_
    refine tN ?_
    refine cSeq ?_
    refine cSeq ?_
    by_cases hl1 : (digs4 (Int.natAbs 1)).length = 1
    · skip
      refine cReg ?_
      refine mV hTT (.ptr 3 0) rfl ?_
      refine mV hTT (.d (.one (dn 64 (Int.natAbs 1)))) rfl ?_
      refine mV hTT (.d (.one (.v (.int .i64 ((digs4 (Int.natAbs 1)).length : Int))))) rfl ?_
      refine mV hTT (.d (.one (.v (.bool true)))) (evb (by rw [hl1]; rfl)) ?_
      refine mV hTT _ rfl ?_
      refine mV hTT (.ptr 3 0) rfl ?_
      refine mV hTT (.d (.one (dn 64 (Int.natAbs 1)))) rfl ?_
      refine mView 21 (.d (.one (.row 1 ((digs4 (Int.natAbs 1)).length) (fun i _ => .v (.int .i64 (((digs4 (Int.natAbs 1)).getD i 0 : Nat) : Int)))))) rfl (le_drow _ _) ?_
      refine mV hTT (.d (.one (.at 1 ((fun i _ => .v (.int .i64 (((digs4 (Int.natAbs 1)).getD i 0 : Nat) : Int))) 0)))) (ixR (el := (fun i _ => .v (.int .i64 (((digs4 (Int.natAbs 1)).getD i 0 : Nat) : Int)))) (z := 0) (n := ((digs4 (Int.natAbs 1)).length)) rfl rfl rfl rfl rfl rfl (by decide) (by rw [hl1]; decide)) ?_
      refine mV hTT (.d (.one (.v (.int .i64 (((digs4 (Int.natAbs 1)).getD 0 0 : Nat) : Int))))) rfl ?_
      refine mV hTT (.d (.one (.v (.bool ((((digs4 (Int.natAbs 1)).getD 0 0 : Nat) : Int) == 1))))) rfl ?_
      refine mV hTT _ rfl ?_
      refine mNil ?_
      refine tN ?_
      refine cCond rfl (fun hc2 => ?_) (fun hc2 => ?_)
      · skip
        refine cSeq ?_
        refine cReg ?_
        refine mV hTT (.d (.agg (rn K n))) rfl ?_
        refine mV hTT (.d (.agg (rn 64 1))) rfl ?_
        refine mV hTT (.d (.agg (rn K n ++ rn 64 1))) rfl ?_
        refine mS hTT 4 (.box 68 (rn K n ++ rn 64 1)) rfl ?_
        refine mNil ?_
        refine tN ?_
        refine cRet ?_
        refine tR ?_
        have hq : mkR n d = Rat.divInt n 1 := by unfold mkR; rw [if_pos hd0]
        have h1 : (1 : Int) = 1 := by have h0 := digs1.1 ⟨hl1, Int.ofNat_inj.1 (eq_of_beq hc2)⟩; omega
        have hq1 : mkR n d = Rat.divInt n 1 := hq.trans (congrArg (Rat.divInt n) h1)
        obtain ⟨e1, e2⟩ := mkR_one n
        exact rQ rfl (le_qn2 (by omega) (by omega) (by rw [hq1]; exact e1.symm) (by rw [hq1]; exact h1.trans e2.symm))
      · skip
        refine cSkip ?_
        refine tN ?_
        refine cSeq ?_
        have hD : (0 : Int) < 1 := by omega
        refine cReg ?_
        refine mV hTT (.d (.agg (rn K n))) rfl ?_
        refine mV hTT (.d (.agg (rn 64 1))) rfl ?_
        refine mC0 (aRGcd (isr K n) (isr 64 1) (M := (max K 64)) (by omega) (by omega)) rfl rfl rfl ?_
        refine mN hTT (.box 42 ([.v (.slice none 0 0), .v (.bool false)])) rfl rfl rfl ?_
        refine mS hTT 5 (.box 42 (rn (max K 64) ((Nat.gcd (Int.natAbs n) (Int.natAbs 1) : Nat) : Int))) rfl ?_
        refine mNil ?_
        refine tN ?_
        refine cSeq ?_
        refine cDrawK hTT 7 (by kernel_rfl) (by kernel_rfl) (by kernel_rfl) ?_
        refine .cons (OpS.V (.d (.agg (rn K n))) rfl) ?_
        refine .cons (OpS.V (.d (.agg (rn (max K 64) ((Nat.gcd (Int.natAbs n) (Int.natAbs 1) : Nat) : Int)))) rfl) ?_
        refine .cons (OpS.C0 (aRQuo (isr K n) (isr (max K 64) ((Nat.gcd (Int.natAbs n) (Int.natAbs 1) : Nat) : Int)) (gcd_nz (by omega)) (gcd_dvd_l _ _) (M := K) (by omega) (by omega) (by omega)) rfl rfl rfl) ?_
        refine .cons (OpS.V (.d (.agg (rn 64 1))) rfl) ?_
        refine .cons (OpS.V (.d (.agg (rn (max K 64) ((Nat.gcd (Int.natAbs n) (Int.natAbs 1) : Nat) : Int)))) rfl) ?_
        refine .cons (OpS.C0 (aRQuo (isr 64 1) (isr (max K 64) ((Nat.gcd (Int.natAbs n) (Int.natAbs 1) : Nat) : Int)) (gcd_nz (by omega)) (gcd_dvd_r _ _) (M := 64) (by decide) (by decide) (by omega)) rfl rfl rfl) ?_
        refine .cons (OpS.V (.d (.agg (rn K (n / ((Nat.gcd (Int.natAbs n) (Int.natAbs 1) : Nat) : Int)) ++ rn 64 (1 / ((Nat.gcd (Int.natAbs n) (Int.natAbs 1) : Nat) : Int))))) rfl) ?_
        refine .nil ?_
        refine mS hTT 4 (.box 68 (rn K (n / ((Nat.gcd (Int.natAbs n) (Int.natAbs 1) : Nat) : Int)) ++ rn 64 (1 / ((Nat.gcd (Int.natAbs n) (Int.natAbs 1) : Nat) : Int)))) rfl ?_
        refine mNil ?_
        refine tN ?_
        refine cRet ?_
        have hq : mkR n d = Rat.divInt n 1 := by unfold mkR; rw [if_pos hd0]
        obtain ⟨e1, e2⟩ := mkR_pos (n := n) (d := 1) hD
        exact rQ rfl (le_qn2 (by omega) (by omega) (by rw [hq]; exact e1.symm) (by rw [hq]; exact e2.symm))
    · skip
      refine cReg ?_
      refine mV hTT (.ptr 3 0) rfl ?_
      refine mV hTT (.d (.one (dn 64 (Int.natAbs 1)))) rfl ?_
      refine mV hTT (.d (.one (.v (.int .i64 ((digs4 (Int.natAbs 1)).length : Int))))) rfl ?_
      refine mV hTT (.d (.one (.v (.bool false)))) (evb (beq_eq_false_iff_ne.2 fun e => hl1 (by exact_mod_cast e))) ?_
      refine mV hTT _ rfl ?_
      refine mG rfl rfl ?_
      refine mG rfl rfl ?_
      refine mG rfl rfl ?_
      refine mG rfl rfl ?_
      refine mG rfl rfl ?_
      refine mV hTT _ rfl ?_
      refine mNil ?_
      refine tN ?_
      refine cF rfl ?_
      refine cSkip ?_
      refine tN ?_
      refine cSeq ?_
      have hD : (0 : Int) < 1 := by omega
      refine cReg ?_
      refine mV hTT (.d (.agg (rn K n))) rfl ?_
      refine mV hTT (.d (.agg (rn 64 1))) rfl ?_
      refine mC0 (aRGcd (isr K n) (isr 64 1) (M := (max K 64)) (by omega) (by omega)) rfl rfl rfl ?_
      refine mN hTT (.box 42 ([.v (.slice none 0 0), .v (.bool false)])) rfl rfl rfl ?_
      refine mS hTT 5 (.box 42 (rn (max K 64) ((Nat.gcd (Int.natAbs n) (Int.natAbs 1) : Nat) : Int))) rfl ?_
      refine mNil ?_
      refine tN ?_
      refine cSeq ?_
      refine cDrawK hTT 7 (by kernel_rfl) (by kernel_rfl) (by kernel_rfl) ?_
      refine .cons (OpS.V (.d (.agg (rn K n))) rfl) ?_
      refine .cons (OpS.V (.d (.agg (rn (max K 64) ((Nat.gcd (Int.natAbs n) (Int.natAbs 1) : Nat) : Int)))) rfl) ?_
      refine .cons (OpS.C0 (aRQuo (isr K n) (isr (max K 64) ((Nat.gcd (Int.natAbs n) (Int.natAbs 1) : Nat) : Int)) (gcd_nz (by omega)) (gcd_dvd_l _ _) (M := K) (by omega) (by omega) (by omega)) rfl rfl rfl) ?_
      refine .cons (OpS.V (.d (.agg (rn 64 1))) rfl) ?_
      refine .cons (OpS.V (.d (.agg (rn (max K 64) ((Nat.gcd (Int.natAbs n) (Int.natAbs 1) : Nat) : Int)))) rfl) ?_
      refine .cons (OpS.C0 (aRQuo (isr 64 1) (isr (max K 64) ((Nat.gcd (Int.natAbs n) (Int.natAbs 1) : Nat) : Int)) (gcd_nz (by omega)) (gcd_dvd_r _ _) (M := 64) (by decide) (by decide) (by omega)) rfl rfl rfl) ?_
      refine .cons (OpS.V (.d (.agg (rn K (n / ((Nat.gcd (Int.natAbs n) (Int.natAbs 1) : Nat) : Int)) ++ rn 64 (1 / ((Nat.gcd (Int.natAbs n) (Int.natAbs 1) : Nat) : Int))))) rfl) ?_
      refine .nil ?_
      refine mS hTT 4 (.box 68 (rn K (n / ((Nat.gcd (Int.natAbs n) (Int.natAbs 1) : Nat) : Int)) ++ rn 64 (1 / ((Nat.gcd (Int.natAbs n) (Int.natAbs 1) : Nat) : Int)))) rfl ?_
      refine mNil ?_
      refine tN ?_
      refine cRet ?_
      have hq : mkR n d = Rat.divInt n 1 := by unfold mkR; rw [if_pos hd0]
      obtain ⟨e1, e2⟩ := mkR_pos (n := n) (d := 1) hD
      exact rQ rfl (le_qn2 (by omega) (by omega) (by rw [hq]; exact e1.symm) (by rw [hq]; exact e2.symm))
  · skip
    refine cSkip ?_
    refine tN ?_
    refine cSeq ?_
    refine cSeq ?_
    have hd0 : d ≠ 0 := of_decide_eq_false hc1
    refine cReg ?_
    refine mV hTT (.ptr 3 1) rfl ?_
    refine mV hTT (.d (.one (.v (.bool (decide (d < 0)))))) rfl ?_
    refine mNil ?_
    refine tN ?_
    refine cCond rfl (fun hc3 => ?_) (fun hc3 => ?_)
    · skip
      have hdn : d < 0 := of_decide_eq_true hc3
      refine cDrawK hTT 4 (by kernel_rfl) (by kernel_rfl) (by kernel_rfl) ?_
      refine .cons (OpS.V (.d (.agg (rn K n))) rfl) ?_
      refine .cons (OpS.C0 (aRNeg (isr K n) (M := K) (by omega) (by omega)) rfl rfl rfl) ?_
      refine .cons (OpS.V (.d (.agg (rn L d))) rfl) ?_
      refine .cons (OpS.C0 (aRNeg (isr L d) (M := L) (by omega) (by omega)) rfl rfl rfl) ?_
      refine .nil ?_
      refine mS hTT 2 (.box 42 (rn K (-n))) rfl ?_
      refine mS hTT 3 (.box 42 (rn L (-d))) rfl ?_
      refine mNil ?_
      refine tN ?_
      refine cSeq ?_
      refine cSeq ?_
      by_cases hl1 : (digs4 (Int.natAbs (-d))).length = 1
      · skip
        refine cReg ?_
        refine mV hTT (.ptr 3 0) rfl ?_
        refine mV hTT (.d (.one (dn L (Int.natAbs (-d))))) rfl ?_
        refine mV hTT (.d (.one (.v (.int .i64 ((digs4 (Int.natAbs (-d))).length : Int))))) rfl ?_
        refine mV hTT (.d (.one (.v (.bool true)))) (evb (by rw [hl1]; rfl)) ?_
        refine mV hTT _ rfl ?_
        refine mV hTT (.ptr 3 0) rfl ?_
        refine mV hTT (.d (.one (dn L (Int.natAbs (-d))))) rfl ?_
        refine mView 21 (.d (.one (.row 1 ((digs4 (Int.natAbs (-d))).length) (fun i _ => .v (.int .i64 (((digs4 (Int.natAbs (-d))).getD i 0 : Nat) : Int)))))) rfl (le_drow _ _) ?_
        refine mV hTT (.d (.one (.at 1 ((fun i _ => .v (.int .i64 (((digs4 (Int.natAbs (-d))).getD i 0 : Nat) : Int))) 0)))) (ixR (el := (fun i _ => .v (.int .i64 (((digs4 (Int.natAbs (-d))).getD i 0 : Nat) : Int)))) (z := 0) (n := ((digs4 (Int.natAbs (-d))).length)) rfl rfl rfl rfl rfl rfl (by decide) (by rw [hl1]; decide)) ?_
        refine mV hTT (.d (.one (.v (.int .i64 (((digs4 (Int.natAbs (-d))).getD 0 0 : Nat) : Int))))) rfl ?_
        refine mV hTT (.d (.one (.v (.bool ((((digs4 (Int.natAbs (-d))).getD 0 0 : Nat) : Int) == 1))))) rfl ?_
        refine mV hTT _ rfl ?_
        refine mNil ?_
        refine tN ?_
        refine cCond rfl (fun hc4 => ?_) (fun hc4 => ?_)
        · skip
          refine cSeq ?_
          refine cReg ?_
          refine mV hTT (.d (.agg (rn K (-n)))) rfl ?_
          refine mV hTT (.d (.agg (rn L (-d)))) rfl ?_
          refine mV hTT (.d (.agg (rn K (-n) ++ rn L (-d)))) rfl ?_
          refine mS hTT 4 (.box 68 (rn K (-n) ++ rn L (-d))) rfl ?_
          refine mNil ?_
          refine tN ?_
          refine cRet ?_
          refine tR ?_
          have hq : mkR n d = Rat.divInt (-n) (-d) := by rw [mkR_ne hd0, Rat.neg_divInt_neg]
          have h1 : ((-d) : Int) = 1 := by have h0 := digs1.1 ⟨hl1, Int.ofNat_inj.1 (eq_of_beq hc4)⟩; omega
          have hq1 : mkR n d = Rat.divInt (-n) 1 := hq.trans (congrArg (Rat.divInt (-n)) h1)
          obtain ⟨e1, e2⟩ := mkR_one (-n)
          exact rQ rfl (le_qn2 (by omega) (by omega) (by rw [hq1]; exact e1.symm) (by rw [hq1]; exact h1.trans e2.symm))
        · skip
          refine cSkip ?_
          refine tN ?_
          refine cSeq ?_
          have hD : (0 : Int) < (-d) := by omega
          refine cReg ?_
          refine mV hTT (.d (.agg (rn K (-n)))) rfl ?_
          refine mV hTT (.d (.agg (rn L (-d)))) rfl ?_
          refine mC0 (aRGcd (isr K (-n)) (isr L (-d)) (M := (max K L)) (by omega) (by omega)) rfl rfl rfl ?_
          refine mN hTT (.box 42 ([.v (.slice none 0 0), .v (.bool false)])) rfl rfl rfl ?_
          refine mS hTT 5 (.box 42 (rn (max K L) ((Nat.gcd (Int.natAbs (-n)) (Int.natAbs (-d)) : Nat) : Int))) rfl ?_
          refine mNil ?_
          refine tN ?_
          refine cSeq ?_
          refine cDrawK hTT 7 (by kernel_rfl) (by kernel_rfl) (by kernel_rfl) ?_
          refine .cons (OpS.V (.d (.agg (rn K (-n)))) rfl) ?_
          refine .cons (OpS.V (.d (.agg (rn (max K L) ((Nat.gcd (Int.natAbs (-n)) (Int.natAbs (-d)) : Nat) : Int)))) rfl) ?_
          refine .cons (OpS.C0 (aRQuo (isr K (-n)) (isr (max K L) ((Nat.gcd (Int.natAbs (-n)) (Int.natAbs (-d)) : Nat) : Int)) (gcd_nz (by omega)) (gcd_dvd_l _ _) (M := K) (by omega) (by omega) (by omega)) rfl rfl rfl) ?_
          refine .cons (OpS.V (.d (.agg (rn L (-d)))) rfl) ?_
          refine .cons (OpS.V (.d (.agg (rn (max K L) ((Nat.gcd (Int.natAbs (-n)) (Int.natAbs (-d)) : Nat) : Int)))) rfl) ?_
          refine .cons (OpS.C0 (aRQuo (isr L (-d)) (isr (max K L) ((Nat.gcd (Int.natAbs (-n)) (Int.natAbs (-d)) : Nat) : Int)) (gcd_nz (by omega)) (gcd_dvd_r _ _) (M := L) (by omega) (by omega) (by omega)) rfl rfl rfl) ?_
          refine .cons (OpS.V (.d (.agg (rn K ((-n) / ((Nat.gcd (Int.natAbs (-n)) (Int.natAbs (-d)) : Nat) : Int)) ++ rn L ((-d) / ((Nat.gcd (Int.natAbs (-n)) (Int.natAbs (-d)) : Nat) : Int))))) rfl) ?_
          refine .nil ?_
          refine mS hTT 4 (.box 68 (rn K ((-n) / ((Nat.gcd (Int.natAbs (-n)) (Int.natAbs (-d)) : Nat) : Int)) ++ rn L ((-d) / ((Nat.gcd (Int.natAbs (-n)) (Int.natAbs (-d)) : Nat) : Int)))) rfl ?_
          refine mNil ?_
          refine tN ?_
          refine cRet ?_
          have hq : mkR n d = Rat.divInt (-n) (-d) := by rw [mkR_ne hd0, Rat.neg_divInt_neg]
          obtain ⟨e1, e2⟩ := mkR_pos (n := (-n)) (d := (-d)) hD
          exact rQ rfl (le_qn2 (by omega) (by omega) (by rw [hq]; exact e1.symm) (by rw [hq]; exact e2.symm))
      · skip
        refine cReg ?_
        refine mV hTT (.ptr 3 0) rfl ?_
        refine mV hTT (.d (.one (dn L (Int.natAbs (-d))))) rfl ?_
        refine mV hTT (.d (.one (.v (.int .i64 ((digs4 (Int.natAbs (-d))).length : Int))))) rfl ?_
        refine mV hTT (.d (.one (.v (.bool false)))) (evb (beq_eq_false_iff_ne.2 fun e => hl1 (by exact_mod_cast e))) ?_
        refine mV hTT _ rfl ?_
        refine mG rfl rfl ?_
        refine mG rfl rfl ?_
        refine mG rfl rfl ?_
        refine mG rfl rfl ?_
        refine mG rfl rfl ?_
        refine mV hTT _ rfl ?_
        refine mNil ?_
        refine tN ?_
        refine cF rfl ?_
        refine cSkip ?_
        refine tN ?_
        refine cSeq ?_
        have hD : (0 : Int) < (-d) := by omega
        refine cReg ?_
        refine mV hTT (.d (.agg (rn K (-n)))) rfl ?_
        refine mV hTT (.d (.agg (rn L (-d)))) rfl ?_
        refine mC0 (aRGcd (isr K (-n)) (isr L (-d)) (M := (max K L)) (by omega) (by omega)) rfl rfl rfl ?_
        refine mN hTT (.box 42 ([.v (.slice none 0 0), .v (.bool false)])) rfl rfl rfl ?_
        refine mS hTT 5 (.box 42 (rn (max K L) ((Nat.gcd (Int.natAbs (-n)) (Int.natAbs (-d)) : Nat) : Int))) rfl ?_
        refine mNil ?_
        refine tN ?_
        refine cSeq ?_
        refine cDrawK hTT 7 (by kernel_rfl) (by kernel_rfl) (by kernel_rfl) ?_
        refine .cons (OpS.V (.d (.agg (rn K (-n)))) rfl) ?_
        refine .cons (OpS.V (.d (.agg (rn (max K L) ((Nat.gcd (Int.natAbs (-n)) (Int.natAbs (-d)) : Nat) : Int)))) rfl) ?_
        refine .cons (OpS.C0 (aRQuo (isr K (-n)) (isr (max K L) ((Nat.gcd (Int.natAbs (-n)) (Int.natAbs (-d)) : Nat) : Int)) (gcd_nz (by omega)) (gcd_dvd_l _ _) (M := K) (by omega) (by omega) (by omega)) rfl rfl rfl) ?_
        refine .cons (OpS.V (.d (.agg (rn L (-d)))) rfl) ?_
        refine .cons (OpS.V (.d (.agg (rn (max K L) ((Nat.gcd (Int.natAbs (-n)) (Int.natAbs (-d)) : Nat) : Int)))) rfl) ?_
        refine .cons (OpS.C0 (aRQuo (isr L (-d)) (isr (max K L) ((Nat.gcd (Int.natAbs (-n)) (Int.natAbs (-d)) : Nat) : Int)) (gcd_nz (by omega)) (gcd_dvd_r _ _) (M := L) (by omega) (by omega) (by omega)) rfl rfl rfl) ?_
        refine .cons (OpS.V (.d (.agg (rn K ((-n) / ((Nat.gcd (Int.natAbs (-n)) (Int.natAbs (-d)) : Nat) : Int)) ++ rn L ((-d) / ((Nat.gcd (Int.natAbs (-n)) (Int.natAbs (-d)) : Nat) : Int))))) rfl) ?_
        refine .nil ?_
        refine mS hTT 4 (.box 68 (rn K ((-n) / ((Nat.gcd (Int.natAbs (-n)) (Int.natAbs (-d)) : Nat) : Int)) ++ rn L ((-d) / ((Nat.gcd (Int.natAbs (-n)) (Int.natAbs (-d)) : Nat) : Int)))) rfl ?_
        refine mNil ?_
        refine tN ?_
        refine cRet ?_
        have hq : mkR n d = Rat.divInt (-n) (-d) := by rw [mkR_ne hd0, Rat.neg_divInt_neg]
        obtain ⟨e1, e2⟩ := mkR_pos (n := (-n)) (d := (-d)) hD
        exact rQ rfl (le_qn2 (by omega) (by omega) (by rw [hq]; exact e1.symm) (by rw [hq]; exact e2.symm))
    · skip
      refine cSkip ?_
      refine tN ?_
      refine cSeq ?_
      refine cSeq ?_
      have hdp : 0 < d := by have h0 := of_decide_eq_false hc3; omega
      by_cases hl1 : (digs4 d.natAbs).length = 1
      · skip
        refine cReg ?_
        refine mV hTT (.ptr 3 0) rfl ?_
        refine mV hTT (.d (.one (dn L d.natAbs))) rfl ?_
        refine mV hTT (.d (.one (.v (.int .i64 ((digs4 d.natAbs).length : Int))))) rfl ?_
        refine mV hTT (.d (.one (.v (.bool true)))) (evb (by rw [hl1]; rfl)) ?_
        refine mV hTT _ rfl ?_
        refine mV hTT (.ptr 3 0) rfl ?_
        refine mV hTT (.d (.one (dn L d.natAbs))) rfl ?_
        refine mView 21 (.d (.one (.row 1 ((digs4 d.natAbs).length) (fun i _ => .v (.int .i64 (((digs4 d.natAbs).getD i 0 : Nat) : Int)))))) rfl (le_drow _ _) ?_
        refine mV hTT (.d (.one (.at 1 ((fun i _ => .v (.int .i64 (((digs4 d.natAbs).getD i 0 : Nat) : Int))) 0)))) (ixR (el := (fun i _ => .v (.int .i64 (((digs4 d.natAbs).getD i 0 : Nat) : Int)))) (z := 0) (n := ((digs4 d.natAbs).length)) rfl rfl rfl rfl rfl rfl (by decide) (by rw [hl1]; decide)) ?_
        refine mV hTT (.d (.one (.v (.int .i64 (((digs4 d.natAbs).getD 0 0 : Nat) : Int))))) rfl ?_
        refine mV hTT (.d (.one (.v (.bool ((((digs4 d.natAbs).getD 0 0 : Nat) : Int) == 1))))) rfl ?_
        refine mV hTT _ rfl ?_
        refine mNil ?_
        refine tN ?_
        refine cCond rfl (fun hc5 => ?_) (fun hc5 => ?_)
        · skip
          refine cSeq ?_
          refine cReg ?_
          refine mV hTT (.d (.agg (rn K n))) rfl ?_
          refine mV hTT (.d (.agg (rn L d))) rfl ?_
          refine mV hTT (.d (.agg (rn K n ++ rn L d))) rfl ?_
          refine mS hTT 4 (.box 68 (rn K n ++ rn L d)) rfl ?_
          refine mNil ?_
          refine tN ?_
          refine cRet ?_
          refine tR ?_
          have hq : mkR n d = Rat.divInt n d := mkR_ne hd0
          have h1 : (d : Int) = 1 := by have h0 := digs1.1 ⟨hl1, Int.ofNat_inj.1 (eq_of_beq hc5)⟩; omega
          have hq1 : mkR n d = Rat.divInt n 1 := hq.trans (congrArg (Rat.divInt n) h1)
          obtain ⟨e1, e2⟩ := mkR_one n
          exact rQ rfl (le_qn2 (by omega) (by omega) (by rw [hq1]; exact e1.symm) (by rw [hq1]; exact h1.trans e2.symm))
        · skip
          refine cSkip ?_
          refine tN ?_
          refine cSeq ?_
          have hD : (0 : Int) < d := by omega
          refine cReg ?_
          refine mV hTT (.d (.agg (rn K n))) rfl ?_
          refine mV hTT (.d (.agg (rn L d))) rfl ?_
          refine mC0 (aRGcd (isr K n) (isr L d) (M := (max K L)) (by omega) (by omega)) rfl rfl rfl ?_
          refine mN hTT (.box 42 ([.v (.slice none 0 0), .v (.bool false)])) rfl rfl rfl ?_
          refine mS hTT 5 (.box 42 (rn (max K L) ((Nat.gcd (Int.natAbs n) (Int.natAbs d) : Nat) : Int))) rfl ?_
          refine mNil ?_
          refine tN ?_
          refine cSeq ?_
          refine cDrawK hTT 7 (by kernel_rfl) (by kernel_rfl) (by kernel_rfl) ?_
          refine .cons (OpS.V (.d (.agg (rn K n))) rfl) ?_
          refine .cons (OpS.V (.d (.agg (rn (max K L) ((Nat.gcd (Int.natAbs n) (Int.natAbs d) : Nat) : Int)))) rfl) ?_
          refine .cons (OpS.C0 (aRQuo (isr K n) (isr (max K L) ((Nat.gcd (Int.natAbs n) (Int.natAbs d) : Nat) : Int)) (gcd_nz (by omega)) (gcd_dvd_l _ _) (M := K) (by omega) (by omega) (by omega)) rfl rfl rfl) ?_
          refine .cons (OpS.V (.d (.agg (rn L d))) rfl) ?_
          refine .cons (OpS.V (.d (.agg (rn (max K L) ((Nat.gcd (Int.natAbs n) (Int.natAbs d) : Nat) : Int)))) rfl) ?_
          refine .cons (OpS.C0 (aRQuo (isr L d) (isr (max K L) ((Nat.gcd (Int.natAbs n) (Int.natAbs d) : Nat) : Int)) (gcd_nz (by omega)) (gcd_dvd_r _ _) (M := L) (by omega) (by omega) (by omega)) rfl rfl rfl) ?_
          refine .cons (OpS.V (.d (.agg (rn K (n / ((Nat.gcd (Int.natAbs n) (Int.natAbs d) : Nat) : Int)) ++ rn L (d / ((Nat.gcd (Int.natAbs n) (Int.natAbs d) : Nat) : Int))))) rfl) ?_
          refine .nil ?_
          refine mS hTT 4 (.box 68 (rn K (n / ((Nat.gcd (Int.natAbs n) (Int.natAbs d) : Nat) : Int)) ++ rn L (d / ((Nat.gcd (Int.natAbs n) (Int.natAbs d) : Nat) : Int)))) rfl ?_
          refine mNil ?_
          refine tN ?_
          refine cRet ?_
          have hq : mkR n d = Rat.divInt n d := mkR_ne hd0
          obtain ⟨e1, e2⟩ := mkR_pos (n := n) (d := d) hD
          exact rQ rfl (le_qn2 (by omega) (by omega) (by rw [hq]; exact e1.symm) (by rw [hq]; exact e2.symm))
      · skip
        refine cReg ?_
        refine mV hTT (.ptr 3 0) rfl ?_
        refine mV hTT (.d (.one (dn L d.natAbs))) rfl ?_
        refine mV hTT (.d (.one (.v (.int .i64 ((digs4 d.natAbs).length : Int))))) rfl ?_
        refine mV hTT (.d (.one (.v (.bool false)))) (evb (beq_eq_false_iff_ne.2 fun e => hl1 (by exact_mod_cast e))) ?_
        refine mV hTT _ rfl ?_
        refine mG rfl rfl ?_
        refine mG rfl rfl ?_
        refine mG rfl rfl ?_
        refine mG rfl rfl ?_
        refine mG rfl rfl ?_
        refine mV hTT _ rfl ?_
        refine mNil ?_
        refine tN ?_
        refine cF rfl ?_
        refine cSkip ?_
        refine tN ?_
        refine cSeq ?_
        have hD : (0 : Int) < d := by omega
        refine cReg ?_
        refine mV hTT (.d (.agg (rn K n))) rfl ?_
        refine mV hTT (.d (.agg (rn L d))) rfl ?_
        refine mC0 (aRGcd (isr K n) (isr L d) (M := (max K L)) (by omega) (by omega)) rfl rfl rfl ?_
        refine mN hTT (.box 42 ([.v (.slice none 0 0), .v (.bool false)])) rfl rfl rfl ?_
        refine mS hTT 5 (.box 42 (rn (max K L) ((Nat.gcd (Int.natAbs n) (Int.natAbs d) : Nat) : Int))) rfl ?_
        refine mNil ?_
        refine tN ?_
        refine cSeq ?_
        refine cDrawK hTT 7 (by kernel_rfl) (by kernel_rfl) (by kernel_rfl) ?_
        refine .cons (OpS.V (.d (.agg (rn K n))) rfl) ?_
        refine .cons (OpS.V (.d (.agg (rn (max K L) ((Nat.gcd (Int.natAbs n) (Int.natAbs d) : Nat) : Int)))) rfl) ?_
        refine .cons (OpS.C0 (aRQuo (isr K n) (isr (max K L) ((Nat.gcd (Int.natAbs n) (Int.natAbs d) : Nat) : Int)) (gcd_nz (by omega)) (gcd_dvd_l _ _) (M := K) (by omega) (by omega) (by omega)) rfl rfl rfl) ?_
        refine .cons (OpS.V (.d (.agg (rn L d))) rfl) ?_
        refine .cons (OpS.V (.d (.agg (rn (max K L) ((Nat.gcd (Int.natAbs n) (Int.natAbs d) : Nat) : Int)))) rfl) ?_
        refine .cons (OpS.C0 (aRQuo (isr L d) (isr (max K L) ((Nat.gcd (Int.natAbs n) (Int.natAbs d) : Nat) : Int)) (gcd_nz (by omega)) (gcd_dvd_r _ _) (M := L) (by omega) (by omega) (by omega)) rfl rfl rfl) ?_
        refine .cons (OpS.V (.d (.agg (rn K (n / ((Nat.gcd (Int.natAbs n) (Int.natAbs d) : Nat) : Int)) ++ rn L (d / ((Nat.gcd (Int.natAbs n) (Int.natAbs d) : Nat) : Int))))) rfl) ?_
        refine .nil ?_
        refine mS hTT 4 (.box 68 (rn K (n / ((Nat.gcd (Int.natAbs n) (Int.natAbs d) : Nat) : Int)) ++ rn L (d / ((Nat.gcd (Int.natAbs n) (Int.natAbs d) : Nat) : Int)))) rfl ?_
        refine mNil ?_
        refine tN ?_
        refine cRet ?_
        have hq : mkR n d = Rat.divInt n d := mkR_ne hd0
        obtain ⟨e1, e2⟩ := mkR_pos (n := n) (d := d) hD
        exact rQ rfl (le_qn2 (by omega) (by omega) (by rw [hq]; exact e1.symm) (by rw [hq]; exact e2.symm))

set_option maxRecDepth 100000 in
set_option maxHeartbeats 4000000 in
theorem aROfR {n d : Int} (h1 : -9223372036854775808 ≤ n := by decide) (h2 : n ≤ 9223372036854775807 := by decide) (h3 : -9223372036854775808 ≤ d := by decide) (h4 : d ≤ 9223372036854775807 := by decide) : ACall Try.prog 59 [.one (.v (.int .i64 n)), .one (.v (.int .i64 d))] (.d (.agg (qn 64 (mkR n d)))) := by
  refine acallN hTT 10 [.cell 4 68] Try.func59 rfl rfl rfl rfl rfl ?_
  refine cSeq ?_
  refine cReg ?_
  refine mN hTT (.box 68 ([.v (.slice none 0 0), .v (.bool false), .v (.slice none 0 0), .v (.bool false)])) rfl rfl rfl ?_
  refine mNil ?_
  refine tN ?_
  refine cSeq ?_
  refine cReg ?_
  refine mV hTT _ rfl ?_
  refine mC0 (aROf (n := n) h1 h2) rfl rfl rfl ?_
  refine mV hTT _ rfl ?_
  refine mC0 (aROf (n := d) h3 h4) rfl rfl rfl ?_
  refine mC0 (aRMake (isr 64 n) (isr 64 d) (M := 64) (by decide) (by decide)) rfl rfl rfl ?_
  refine mS hTT 4 (.box 68 (qn 64 (mkR n d))) rfl ?_
  refine mNil ?_
  refine tN ?_
  refine cRet ?_
  exact rQ rfl (AV.le.rfl)

theorem aROfI {n : Int} (h1 : -9223372036854775808 ≤ n := by decide) (h2 : n ≤ 9223372036854775807 := by decide) : ACall Try.prog 59 [.one (.v (.int .i64 n)), .one (.v (.int .i64 1))] (.d (.agg (qn 64 (n : Rat)))) := by
  have h := aROfR (d := 1) h1 h2 (by decide) (by decide)
  rw [mkR_int] at h; exact h
set_option maxRecDepth 100000 in
set_option maxHeartbeats 4000000 in
theorem aRAddR {a b : List Lf} {K L M : Nat} {x y : Rat} (ha : IsQ a K x) (hb : IsQ b L y) (hM : max (K + L + 1) 64 ≤ M := by decide) (hMM : M ≤ 10000000 := by decide) : ACall Try.prog 54 [.agg a, .agg b] (.d (.agg (qn M (x + y)))) := by
  refine ACall.le (dl (DV.g ha) (dl (DV.g hb) dl0)) AV.le.rfl ?_
  refine acallN hTT 22 [.cell 4 68] Try.func54 rfl rfl rfl rfl rfl ?_
  refine cSeq ?_
  refine cReg ?_
  refine mN hTT (.box 68 (rn K x.num ++ rn K (x.den : Int))) rfl rfl rfl ?_
  refine mN hTT (.box 68 (rn L y.num ++ rn L (y.den : Int))) rfl rfl rfl ?_
  refine mN hTT (.box 68 ([.v (.slice none 0 0), .v (.bool false), .v (.slice none 0 0), .v (.bool false)])) rfl rfl rfl ?_
  refine mNil ?_
  refine tN ?_
  refine cSeq ?_
  refine cDrawK hTT 17 (by kernel_rfl) (by kernel_rfl) (by kernel_rfl) ?_
  refine .cons (OpS.V (.ptr 2 0) rfl) ?_
  refine .cons (OpS.V (.d (.agg (rn K x.num))) rfl) ?_
  refine .cons (OpS.V (.ptr 3 2) rfl) ?_
  refine .cons (OpS.V (.d (.agg (rn L (y.den : Int)))) rfl) ?_
  refine .cons (OpS.C0 (aRMul (isr K x.num) (isr L (y.den : Int)) (M := (K + L)) (by omega) (by omega) (by omega)) rfl rfl rfl) ?_
  refine .cons (OpS.V (.ptr 3 0) rfl) ?_
  refine .cons (OpS.V (.d (.agg (rn L y.num))) rfl) ?_
  refine .cons (OpS.V (.ptr 2 2) rfl) ?_
  refine .cons (OpS.V (.d (.agg (rn K (x.den : Int)))) rfl) ?_
  refine .cons (OpS.C0 (aRMul (isr L y.num) (isr K (x.den : Int)) (M := (L + K)) (by omega) (by omega) (by omega)) rfl rfl rfl) ?_
  refine .cons (OpS.C0 (aRAdd (isr (K + L) (x.num * (y.den : Int))) (isr (L + K) (y.num * (x.den : Int))) (M := (max (K + L) (L + K) + 1)) (by omega) (by omega) (by omega)) rfl rfl rfl) ?_
  refine .cons (OpS.V (.ptr 2 2) rfl) ?_
  refine .cons (OpS.V (.d (.agg (rn K (x.den : Int)))) rfl) ?_
  refine .cons (OpS.V (.ptr 3 2) rfl) ?_
  refine .cons (OpS.V (.d (.agg (rn L (y.den : Int)))) rfl) ?_
  refine .cons (OpS.C0 (aRMul (isr K (x.den : Int)) (isr L (y.den : Int)) (M := (K + L)) (by omega) (by omega) (by omega)) rfl rfl rfl) ?_
  refine .cons (OpS.C0 (aRMake (isr (max (K + L) (L + K) + 1) ((x.num * (y.den : Int)) + (y.num * (x.den : Int)))) (isr (K + L) ((x.den : Int) * (y.den : Int))) (M := (max (max (K + L) (L + K) + 1) (max (K + L) 64))) (by omega) (by omega)) rfl rfl rfl) ?_
  refine .nil ?_
  refine mS hTT 4 (.box 68 (qn (max (max (K + L) (L + K) + 1) (max (K + L) 64)) (mkR ((x.num * (y.den : Int)) + (y.num * (x.den : Int))) ((x.den : Int) * (y.den : Int))))) rfl ?_
  refine mNil ?_
  refine tN ?_
  refine cRet ?_
  exact rQ rfl (le_qn (by omega) (mkR_add x y))

set_option maxRecDepth 100000 in
set_option maxHeartbeats 4000000 in
theorem aRMulR {a b : List Lf} {K L M : Nat} {x y : Rat} (ha : IsQ a K x) (hb : IsQ b L y) (hM : max (K + L + 1) 64 ≤ M := by decide) (hMM : M ≤ 10000000 := by decide) : ACall Try.prog 62 [.agg a, .agg b] (.d (.agg (qn M (x * y)))) := by
  refine ACall.le (dl (DV.g ha) (dl (DV.g hb) dl0)) AV.le.rfl ?_
  refine acallN hTT 16 [.cell 4 68] Try.func62 rfl rfl rfl rfl rfl ?_
  refine cSeq ?_
  refine cReg ?_
  refine mN hTT (.box 68 (rn K x.num ++ rn K (x.den : Int))) rfl rfl rfl ?_
  refine mN hTT (.box 68 (rn L y.num ++ rn L (y.den : Int))) rfl rfl rfl ?_
  refine mN hTT (.box 68 ([.v (.slice none 0 0), .v (.bool false), .v (.slice none 0 0), .v (.bool false)])) rfl rfl rfl ?_
  refine mNil ?_
  refine tN ?_
  refine cSeq ?_
  refine cDrawK hTT 11 (by kernel_rfl) (by kernel_rfl) (by kernel_rfl) ?_
  refine .cons (OpS.V (.ptr 2 0) rfl) ?_
  refine .cons (OpS.V (.d (.agg (rn K x.num))) rfl) ?_
  refine .cons (OpS.V (.ptr 3 0) rfl) ?_
  refine .cons (OpS.V (.d (.agg (rn L y.num))) rfl) ?_
  refine .cons (OpS.C0 (aRMul (isr K x.num) (isr L y.num) (M := (K + L)) (by omega) (by omega) (by omega)) rfl rfl rfl) ?_
  refine .cons (OpS.V (.ptr 2 2) rfl) ?_
  refine .cons (OpS.V (.d (.agg (rn K (x.den : Int)))) rfl) ?_
  refine .cons (OpS.V (.ptr 3 2) rfl) ?_
  refine .cons (OpS.V (.d (.agg (rn L (y.den : Int)))) rfl) ?_
  refine .cons (OpS.C0 (aRMul (isr K (x.den : Int)) (isr L (y.den : Int)) (M := (K + L)) (by omega) (by omega) (by omega)) rfl rfl rfl) ?_
  refine .cons (OpS.C0 (aRMake (isr (K + L) (x.num * y.num)) (isr (K + L) ((x.den : Int) * (y.den : Int))) (M := (max (K + L) (max (K + L) 64))) (by omega) (by omega)) rfl rfl rfl) ?_
  refine .nil ?_
  refine mS hTT 4 (.box 68 (qn (max (K + L) (max (K + L) 64)) (mkR (x.num * y.num) ((x.den : Int) * (y.den : Int))))) rfl ?_
  refine mNil ?_
  refine tN ?_
  refine cRet ?_
  exact rQ rfl (le_qn (by omega) (mkR_mul x y))

end Go.Proofs.Ytlkdlicbhhackaa

/-
  THE LAWS of chapter 2, by the machine: of, is, wakes; WholeGcds.
-/
set_option linter.unusedVariables false
set_option linter.unusedSimpArgs false
namespace Go.Proofs.Ytlkdlicbhhackaa
open Go.RowKit

set_option maxRecDepth 100000 in
set_option maxHeartbeats 4000000 in
theorem aKInt {K k : Nat} {s : Bool} {xs : List Nat} (hk : k ≤ 1000000 := by decide) (hK : K ≤ 9223372036854775807 := by decide) : ACall Try.prog 69 [.agg [.v (.bool s), lr K xs], .one (.v (.int .i64 (k : Int)))] (.d (.agg [.v (.bool s), lr k (xs.take k)])) := by
  refine acallN hTT 12 [.cell 4 36] Try.func69 rfl rfl rfl rfl rfl ?_
  refine cSeq ?_
  refine cReg ?_
  refine mN hTT (.box 36 ([.v (.bool s), lr K xs])) rfl rfl rfl ?_
  refine mN hTT (.box 36 ([.v (.bool false), .v (.slice none 0 0)])) rfl rfl rfl ?_
  refine mNil ?_
  refine tN ?_
  refine cSeq ?_
  refine cDrawK hTT 7 (by kernel_rfl) (by kernel_rfl) (by kernel_rfl) ?_
  refine .cons (OpS.V (.ptr 2 0) rfl) ?_
  refine .cons (OpS.V (.d (.one (.v (.bool s)))) rfl) ?_
  refine .cons (OpS.V (.ptr 2 1) rfl) ?_
  refine .cons (OpS.V (.d (.one (lr K xs))) rfl) ?_
  refine .cons (OpS.V _ rfl) ?_
  refine .cons (OpS.C0 (aRow (K := K) (k := k) (xs := xs) (by omega) (by omega)) rfl rfl rfl) ?_
  refine .cons (OpS.V (.d (.agg ([.v (.bool s), lr k (xs.take k)]))) rfl) ?_
  refine .nil ?_
  refine mS hTT 4 (.box 36 ([.v (.bool s), lr k (xs.take k)])) rfl ?_
  refine mNil ?_
  refine tN ?_
  refine cRet ?_
  exact rQ rfl (AV.le.rfl)

set_option maxRecDepth 100000 in
set_option maxHeartbeats 4000000 in
theorem aOf2 {K k : Nat} {s : Bool} {xs : List Nat} (hk : k ≤ 100000 := by decide) (hK : K ≤ 9223372036854775807 := by decide) : ACall Try.prog 24 [.agg [.v (.bool s), lr K xs], .one (.v (.int .i64 (k : Int)))] (.tup [.agg [.v (.bool s), lr k (xs.take k)], .agg (rn (3 * k) (zv s (val (xs.take k))))]) := by
  refine acallN hTT 12 [.cell 4 36, .cell 5 42] Try.func24 rfl rfl rfl rfl rfl ?_
  refine cSeq ?_
  refine cReg ?_
  refine mN hTT (.box 36 ([.v (.bool s), lr K xs])) rfl rfl rfl ?_
  refine mN hTT (.box 36 ([.v (.bool false), .v (.slice none 0 0)])) rfl rfl rfl ?_
  refine mN hTT (.box 42 ([.v (.slice none 0 0), .v (.bool false)])) rfl rfl rfl ?_
  refine mNil ?_
  refine tN ?_
  refine cSeq ?_
  refine cReg ?_
  refine mV hTT (.d (.agg ([.v (.bool s), lr K xs]))) rfl ?_
  refine mV hTT _ rfl ?_
  refine mC0 (aKInt (K := K) (k := k) (s := s) (xs := xs) (by omega) (by omega)) rfl rfl rfl ?_
  refine mS hTT 2 (.box 36 ([.v (.bool s), lr k (xs.take k)])) rfl ?_
  refine mNil ?_
  refine tN ?_
  refine cSeq ?_
  refine cDrawK hTT 3 (by kernel_rfl) (by kernel_rfl) (by kernel_rfl) ?_
  refine .cons (OpS.V (.d (.agg ([.v (.bool s), lr k (xs.take k)]))) rfl) ?_
  refine .cons (OpS.V (.d (.agg ([.v (.bool s), lr k (xs.take k)]))) rfl) ?_
  refine .cons (OpS.C0 (aRFrom (iszr k s (xs.take k)) (M := (3 * k)) (by omega) (by omega)) rfl rfl rfl) ?_
  refine .nil ?_
  refine mS hTT 4 (.box 36 ([.v (.bool s), lr k (xs.take k)])) rfl ?_
  refine mS hTT 5 (.box 42 (rn (3 * k) (zv s (val (xs.take k))))) rfl ?_
  refine mNil ?_
  refine tN ?_
  refine cRet ?_
  exact rQ rfl (le_tup (dl DV.same (dl (dle (le_rn (by omega) rfl)) dl0)))

set_option maxRecDepth 100000 in
set_option maxHeartbeats 4000000 in
theorem aIs2 {a b : List Lf} {K L : Nat} {x : Int} (ha : IsR a K x) (hb : IsN b L x) (hK : K ≤ 1000000000 := by decide) (hL : L ≤ 1000000000 := by decide) : ACall Try.prog 27 [.agg a, .agg b] (.d (.one (.v (.bool true)))) := by
  refine ACall.le (dl (DV.g ha) (dl (DV.g hb) dl0)) AV.le.rfl ?_
  refine acallN hTT 8 [.tmp 4] Try.func27 rfl rfl rfl rfl rfl ?_
  refine cSeq ?_
  refine cReg ?_
  refine mN hTT (.box 42 (rn K x)) rfl rfl rfl ?_
  refine mN hTT (.box 36 (zn L x)) rfl rfl rfl ?_
  refine mV hTT _ rfl ?_
  refine mNil ?_
  refine tN ?_
  refine cSeq ?_
  refine cReg ?_
  refine mV hTT (.d (.agg (rn K x))) rfl ?_
  refine mV hTT (.d (.agg (zn L x))) rfl ?_
  refine mC0 (aRSame (isr K x) (isn L x) (by omega) (by omega)) rfl rfl rfl ?_
  refine mV hTT _ rfl ?_
  refine mNil ?_
  refine tN ?_
  refine cRet ?_
  exact rQ rfl (AV.le.rfl)

set_option maxRecDepth 100000 in
set_option maxHeartbeats 4000000 in
theorem aWakes : ACall Try.prog 40 [] (.d (.one (.v (.bool true)))) := by
  refine acallN hTT 23 [.tmp 0] Try.func40 rfl rfl rfl rfl rfl ?_
  refine cSeq ?_
  refine cReg ?_
  refine mV hTT _ rfl ?_
  refine mNil ?_
  refine tN ?_
  refine cSeq ?_
  refine cReg ?_
  refine mC0 (aOf (n := (-7)) (by decide) (by decide)) rfl rfl rfl ?_
  refine mC0 (aOf (n := 2) (by decide) (by decide)) rfl rfl rfl ?_
  refine mC0 (aDivMod (isz 2 (-7)) (isz 2 2) (by decide) (M := 3) (by decide) (by decide) (by decide)) rfl rfl rfl ?_
  refine mV hTT _ rfl ?_
  refine mV hTT _ rfl ?_
  refine mV hTT _ rfl ?_
  refine mV hTT _ rfl ?_
  refine mN hTT (.box 36 ([.v (.bool false), .v (.slice none 0 0)])) rfl rfl rfl ?_
  refine mN hTT (.box 36 ([.v (.bool false), .v (.slice none 0 0)])) rfl rfl rfl ?_
  refine mS hTT 1 (.box 36 (zn 3 ((-7) / 2))) rfl ?_
  refine mS hTT 2 (.box 36 (zn 2 ((-7) % 2))) rfl ?_
  refine mV hTT _ rfl ?_
  refine mNil ?_
  refine tN ?_
  refine cSeq ?_
  refine cDrawK hTT 13 (by kernel_rfl) (by kernel_rfl) (by kernel_rfl) ?_
  refine .cons (OpS.V _ rfl) ?_
  refine .cons (OpS.V (.d (.one (.v (.bool true)))) rfl) ?_
  refine .cons (OpS.V _ rfl) ?_
  refine .cons (OpS.C0 (aROf (n := (-4)) (by decide) (by decide)) rfl rfl rfl) ?_
  refine .cons (OpS.V (.d (.agg (zn 3 ((-7) / 2)))) rfl) ?_
  refine .cons (OpS.C0 (aIs2 (IsR.eq (isr 64 (-4)) (by decide)) (isn 3 ((-7) / 2)) (by decide) (by decide)) rfl rfl rfl) ?_
  refine .cons (OpS.V _ rfl) ?_
  refine .cons (OpS.V _ rfl) ?_
  refine .cons (OpS.C0 (aROf (n := 1) (by decide) (by decide)) rfl rfl rfl) ?_
  refine .cons (OpS.V (.d (.agg (zn 2 ((-7) % 2)))) rfl) ?_
  refine .cons (OpS.C0 (aIs2 (IsR.eq (isr 64 1) (by decide)) (isn 2 ((-7) % 2)) (by decide) (by decide)) rfl rfl rfl) ?_
  refine .cons (OpS.V _ rfl) ?_
  refine .cons (OpS.V _ rfl) ?_
  refine .nil ?_
  refine mNil ?_
  refine tN ?_
  refine cRet ?_
  exact rQ rfl (AV.le.rfl)

theorem gcdN_congr {c d : Nat → Int} : ∀ {n : Nat}, (∀ i, i < n → c i = d i) → gcdN c n = gcdN d n
  | 0, _ => rfl
  | n + 1, h => by show Nat.gcd (gcdN c n) _ = Nat.gcd (gcdN d n) _; rw [gcdN_congr (fun i hi => h i (by omega)), h n (by omega)]
end Go.Proofs.Ytlkdlicbhhackaa

