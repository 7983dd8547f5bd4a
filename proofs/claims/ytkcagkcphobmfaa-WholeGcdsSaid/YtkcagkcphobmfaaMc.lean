/-
  THE ABSTRACT MACHINE, 3: the operations that only look at memory or make values. No condition; nothing of the program.
-/
import Derived.Test.YtkcagkcphobmfaaMb
set_option linter.unusedVariables false
set_option linter.unusedSimpArgs false
namespace Go.Proofs.Ytkcagkcphobmfaa
open Go.RowKit

def rng (cs : Nat → Lf) : Nat → Nat → List Lf
  | _, 0 => []
  | o, n + 1 => cs o :: rng cs (o + 1) n

theorem rng_len (cs : Nat → Lf) : ∀ (n o : Nat), (rng cs o n).length = n
  | 0, _ => rfl
  | n + 1, o => by simp [rng, rng_len cs n]

theorem rng_R {B : BS} {w : World} {cs : Nat → Lf} {b off : Nat} : ∀ (n o : Nat), (∀ j, o ≤ j → j < o + n → ∃ x, w.cell? ⟨b, off + j, none⟩ = some x ∧ LfR B w (cs j) x) →
    ∃ vs : List Value, vs.length = n ∧ w.rangeAt b (off + o) vs ∧ LsR B w (rng cs o n) vs
  | 0, o, _ => ⟨[], rfl, fun j v h => by simp at h, trivial⟩
  | n + 1, o, h => by
    obtain ⟨x, hx, hl⟩ := h o (Nat.le_refl _) (by omega)
    obtain ⟨vs, h1, h2, h3⟩ := rng_R n (o + 1) (fun j h1 h2 => h j (by omega) (by omega))
    refine ⟨x :: vs, by simp [h1], fun j v hv => ?_, hl, h3⟩
    cases j with
    | zero => simp at hv; subst hv; exact hx
    | succ j =>
      have := h2 j v (by simpa using hv)
      rw [show off + o + (j + 1) = off + (o + 1) + j by omega]
      exact this

/-- A part of a struct's cells. -/
def partV (ti : TI) (ls : List Lf) (off : Nat) : Option DV :=
  match ti.agg with
  | true => if off + ti.n ≤ ls.length then some (.agg ((ls.drop off).take ti.n)) else none
  | false => match ls[off]? with
    | some l => some (.one l)
    | none => none

theorem partV_ok {P : Program} {t : TypeId} {ti : TI} {ls : List Lf} {off : Nat} {d : DV} {B : BS} {w : World} {cs : List Value} (hti : tiOf P t = some ti) (h : partV ti ls off = some d) (hl : LsR B w ls cs) :
    ∃ v, (part t cs.toArray off).run P w = .ok v w ∧ DR B w d v := by
  rw [ti_part hti]
  unfold partV at h
  split at h
  · rename_i ha
    rw [if_pos ha]
    split at h
    · cases h
      exact ⟨_, rfl, _, rfl, (hl.drop off).take ti.n⟩
    · cases h
  · rename_i ha
    rw [if_neg (by rw [ha]; exact Bool.noConfusion)]
    split at h
    · rename_i l hl'
      cases h
      obtain ⟨c, hc, hr⟩ := hl.get hl'
      rw [hc]
      exact ⟨c, rfl, hr⟩
    · cases h

theorem loadBlk_ok {P : Program} {t : TypeId} {ti : TI} {ls : List Lf} {off g : Nat} {T : TypeId} {d : DV} {B : BS} {w : World} {cs : List Value} (hti : tiOf P t = some ti) (h : partV ti ls off = some d) (hl : LsR B w ls cs) (hb : Blk w g T cs) :
    ∃ v, (Instr.loadAt t (.pointer (some ⟨g, off, none⟩))).run P w = .ok v w ∧ DR B w d v := by
  unfold partV at h
  split at h
  · rename_i ha
    split at h
    · rename_i hle
      cases h
      have hlen := hl.len
      refine ⟨_, ti_load hti ha (cs := (cs.drop off).take ti.n) (fun j v hv => ?_) (by simp; omega), _, rfl, (hl.drop off).take ti.n⟩
      have hj : j < ti.n := by have := (List.getElem?_eq_some_iff.1 hv).1; simp at this; omega
      rw [List.getElem?_take, if_pos hj, List.getElem?_drop] at hv
      obtain ⟨h1, h2⟩ := List.getElem?_eq_some_iff.1 hv
      rw [← h2]; exact hb.cell _ h1
    · cases h
  · rename_i ha
    split at h
    · rename_i l hl'
      cases h
      obtain ⟨c, hc, hr⟩ := hl.get hl'
      obtain ⟨h1, h2⟩ := List.getElem?_eq_some_iff.1 hc
      exact ⟨c, ti_load1 hti ha (by rw [← h2]; exact hb.cell _ h1), hr⟩
    · cases h

/-- Load out of cells that are known one by one. -/
def loadC (ti : TI) (m : Nat) (cs : Nat → Lf) : Option DV :=
  match ti.agg with
  | true => if ti.n ≤ m then some (.agg (rng cs 0 ti.n)) else none
  | false => if 0 < m then some (.one (cs 0)) else none

theorem loadC_ok {P : Program} {t : TypeId} {ti : TI} {m : Nat} {cs : Nat → Lf} {d : DV} {B : BS} {w : World} {b off : Nat} (hti : tiOf P t = some ti) (h : loadC ti m cs = some d)
    (hc : ∀ j, j < m → ∃ x, w.cell? ⟨b, off + j, none⟩ = some x ∧ LfR B w (cs j) x) : ∃ v, (Instr.loadAt t (.pointer (some ⟨b, off, none⟩))).run P w = .ok v w ∧ DR B w d v := by
  unfold loadC at h
  split at h
  · rename_i ha
    split at h
    · rename_i hle
      cases h
      obtain ⟨vs, h1, h2, h3⟩ := rng_R (cs := cs) ti.n 0 (fun j _ hj => hc j (by omega))
      exact ⟨_, ti_load hti ha h2 h1, _, rfl, h3⟩
    · cases h
  · rename_i ha
    split at h
    · rename_i hm
      cases h
      obtain ⟨x, hx, hl⟩ := hc 0 hm
      exact ⟨x, ti_load1 hti ha hx, hl⟩
    · cases h

/-- Parts are laid into a row of cells. -/
def layC (ls : List Lf) (off : Nat) (new : List Lf) : List Lf := ls.take off ++ (new ++ ls.drop (off + new.length))
def layV (ls : List Value) (off : Nat) (new : List Value) : List Value := ls.take off ++ (new ++ ls.drop (off + new.length))
theorem layC_R {B : BS} {w : World} {ls new : List Lf} {cs ns : List Value} (off : Nat) (h : LsR B w ls cs) (k : LsR B w new ns) : LsR B w (layC ls off new) (layV cs off ns) := by
  unfold layC layV
  rw [k.len]
  exact (h.take off).app (k.app (h.drop _))

theorem layV_len {ls new : List Value} {off : Nat} (h : off + new.length ≤ ls.length) : (layV ls off new).length = ls.length := by simp [layV]; omega

theorem foldl_lay : ∀ (new : List Value) (cs : List Value) (off : Nat), off + new.length ≤ cs.length → (new.zipIdx).foldl (fun (l : Array Value) (p : Value × Nat) => l.setIfInBounds (off + p.2) p.1) cs.toArray = (layV cs off new).toArray := by
  have key : ∀ (new : List Value) (cs : List Value) (off i : Nat), off + i + new.length ≤ cs.length → (new.zipIdx i).foldl (fun (l : Array Value) (p : Value × Nat) => l.setIfInBounds (off + p.2) p.1) cs.toArray = (layV cs (off + i) new).toArray := by
    intro new
    induction new with
    | nil => intro cs off i h; simp [layV]
    | cons v r ih =>
      intro cs off i h
      simp only [List.length_cons] at h
      rw [List.zipIdx_cons, List.foldl_cons, List.setIfInBounds_toArray, ih _ _ _ (by rw [List.length_set]; omega)]
      congr 1
      unfold layV
      rw [List.set_eq_take_append_cons_drop, if_pos (by omega)]
      have h1 : (List.take (off + i) cs ++ v :: List.drop (off + i + 1) cs).take (off + (i + 1)) = List.take (off + i) cs ++ [v] := by
        rw [List.take_append]
        have : (List.take (off + i) cs).length = off + i := by simp; omega
        rw [this, show off + (i + 1) - (off + i) = 1 by omega, List.take_of_length_le (by omega)]
        rfl
      have h2 : (List.take (off + i) cs ++ v :: List.drop (off + i + 1) cs).drop (off + (i + 1) + r.length) = cs.drop (off + i + (v :: r).length) := by
        rw [List.drop_append]
        have : (List.take (off + i) cs).length = off + i := by simp; omega
        rw [this, List.drop_eq_nil_of_le (by omega), List.nil_append, show off + (i + 1) + r.length - (off + i) = r.length + 1 by omega, List.drop_succ_cons, List.drop_drop]
        congr 1
        simp; omega
      rw [h1, h2]
      simp
  intro new cs off h
  exact key new cs off 0 (by omega)

def fillL (place : Nat → Option (Nat × Nat)) (cells : List Lf) : List (Nat × List Lf) → Option (List Lf)
  | [] => some cells
  | (i, l) :: rest => match place i with
    | none => none
    | some (off, size) => if l.length = size ∧ off + l.length ≤ cells.length then fillL place (layC cells off l) rest else none

theorem fillL_ok {B : BS} {w : World} (place : Nat → Option (Nat × Nat)) : ∀ (parts : List (Nat × List Lf)) (vs : List (Nat × Value)) (ls r : List Lf) (cs : List Value), LsR B w ls cs → fillL place ls parts = some r →
    parts.length = vs.length → (∀ (k : Nat) (p : Nat × List Lf) (v : Nat × Value), parts[k]? = some p → vs[k]? = some v → p.1 = v.1 ∧ ∃ xs : List Value, v.2.cells = xs.toArray ∧ LsR B w p.2 xs) → ∃ rs : List Value, Instr.fill place cs.toArray vs = some rs.toArray ∧ LsR B w r rs
  | [], [], ls, r, cs, hl, h, _, _ => by
    simp only [fillL, Option.some.injEq] at h
    subst h
    exact ⟨cs, rfl, hl⟩
  | (i, l) :: rest, (i', v) :: vs, ls, r, cs, hl, h, hlen, hp => by
    obtain ⟨h1, xs, hx, hlx⟩ := hp 0 _ _ rfl rfl
    obtain rfl : i = i' := h1
    simp only [fillL] at h
    simp only [Instr.fill]
    cases hpl : place i with
    | none => rw [hpl] at h; cases h
    | some q =>
      obtain ⟨off, size⟩ := q
      rw [hpl] at h
      simp only at h
      split at h
      · rename_i hc
        have hxl : l.length = xs.length := hlx.len
        have hcl := hl.len
        have hsz : ¬ (v.cells.size ≠ size ∨ off + v.cells.size > cs.toArray.size) := by
          rw [hx]; simp at *; omega
        have hb : (decide (v.cells.size ≠ size) || decide (off + v.cells.size > cs.toArray.size)) = false := by
          simp only [Bool.or_eq_false_iff, decide_eq_false_iff_not]
          exact ⟨fun e => hsz (Or.inl e), fun e => hsz (Or.inr e)⟩
        have hfold : v.cells.zipIdx.foldl (fun cs (x : Value × Nat) => cs.setIfInBounds (off + x.2) x.1) cs.toArray = (layV cs off xs).toArray := by
          rw [hx, ← foldl_lay xs cs off (by omega)]
          simp
        obtain ⟨rs, h2, h3⟩ := fillL_ok place rest vs _ r _ (layC_R off hl hlx) h (by simpa using hlen) (fun k p v' h1 h2 => hp (k + 1) p v' (by simpa using h1) (by simpa using h2))
        refine ⟨rs, ?_, h3⟩
        simp only [hb, Bool.false_eq_true, if_false]
        rw [hfold]
        exact h2
      · cases h

/-- The data that operands hold, with their places. -/
def getps (s : AS) : List (Nat × Operand) → Option (List (Nat × List Lf))
  | [] => some []
  | (i, x) :: r => match geto s x, getps s r with
    | some (.d d), some ps => some ((i, d.cells) :: ps)
    | _, _ => none

theorem getps_ok {s : AS} {ρ : Rho} {B : BS} {w : World} {a : Act} (hs : Slots ρ B w s.sl a) : ∀ (l : List (Nat × Operand)) (ps : List (Nat × List Lf)), getps s l = some ps → ps.length = (l.map fun q : Nat × Operand => (q.1, a.eval q.2)).length ∧
    ∀ (k : Nat) (p : Nat × List Lf) (v : Nat × Value), ps[k]? = some p → (l.map fun q : Nat × Operand => (q.1, a.eval q.2))[k]? = some v → p.1 = v.1 ∧ ∃ xs : List Value, v.2.cells = xs.toArray ∧ LsR B w p.2 xs
  | [], ps, h => by
    simp only [getps, Option.some.injEq] at h
    subst h
    exact ⟨rfl, fun k p v h1 => by simp at h1⟩
  | (i, x) :: r, ps, h => by
    simp only [getps] at h
    split at h
    · rename_i d ps' hx hr
      cases h
      obtain ⟨h1, h2⟩ := getps_ok hs r ps' hr
      refine ⟨by simpa using h1, fun k p v hp hv => ?_⟩
      cases k with
      | zero =>
        simp at hp hv
        subst hp; subst hv
        exact ⟨rfl, (geto_ok hs hx : DR _ _ _ _).cells⟩
      | succ k => exact h2 k p v (by simpa using hp) (by simpa using hv)
    · cases h

/-- The operands' data, one cell each. -/
def getls (s : AS) : List Operand → Option (List Lf)
  | [] => some []
  | x :: r => match geto s x, getls s r with
    | some (.d (.one l)), some ls => some (l :: ls)
    | _, _ => none

theorem getls_ok {s : AS} {ρ : Rho} {B : BS} {w : World} {a : Act} (hs : Slots ρ B w s.sl a) : ∀ (l : List Operand) (ls : List Lf), getls s l = some ls → LsR B w ls (l.map a.eval)
  | [], ls, h => by
    simp only [getls, Option.some.injEq] at h
    subst h; trivial
  | x :: r, ls, h => by
    simp only [getls] at h
    split at h
    · rename_i d ps' hx hr
      cases h
      exact ⟨geto_ok hs hx, getls_ok hs r ps' hr⟩
    · cases h

/-- The types of fields, with their places. -/
def placesOf (T : TypeId → Option TI) : List (Nat × TypeId) → Option (List (Nat × Nat))
  | [] => some []
  | (o, u) :: r => match T u, placesOf T r with
    | some ti, some l => some ((o, ti.n) :: l)
    | _, _ => none

theorem placesOf_ok {P : Program} {T : TypeId → Option TI} (hT : TOk P T) {w : World} : ∀ (fs : List Field) (l : List (Nat × Nat)), placesOf T (fs.map fun f => (f.offset, f.type)) = some l → (fs.mapM (fun f => do pure (f.offset, ← sizeOf f.type)) : Sem (List (Nat × Nat))).run P w = .ok l w
  | [], l, h => by
    simp only [List.map_nil, placesOf, Option.some.injEq] at h
    subst h; rfl
  | f :: fs, l, h => by
    simp only [List.map_cons, placesOf] at h
    split at h
    · rename_i ti l' hti hl
      replace hti := hT _ _ hti
      cases h
      obtain ⟨i, z, d, h1, h2, h3, h4, _⟩ := ti_parts hti
      have ih := placesOf_ok hT (w := w) fs l' hl
      simp [List.mapM_cons, sizeOf, typeInfo, h1, h4] at ih ⊢
      rw [ih]; simp
    · cases h

/-- Integers, folded. -/
def minV (k : IntKind) (mx : Bool) : Int → List Lf → Option Int
  | x, [] => some x
  | x, .v (.int k' y) :: r => if k = k' then minV k mx (if mx then (if y > x then y else x) else (if y < x then y else x)) r else none
  | _, _ => none

def ints2 (s : AS) (x : Operand) : Option (IntKind × Int) :=
  match geto s x with
  | some (.d (.one (.v (.int k n)))) => some (k, n)
  | _ => none

theorem ints2_ok {s : AS} {ρ : Rho} {B : BS} {w : World} {a : Act} {x : Operand} {k : IntKind} {n : Int} (hs : Slots ρ B w s.sl a) (h : ints2 s x = some (k, n)) : a.eval x = .int k n := by
  unfold ints2 at h
  split at h
  · rename_i hx
    cases h
    exact (geto_ok hs hx : LfR _ _ _ _).1
  · cases h

end Go.Proofs.Ytkcagkcphobmfaa
