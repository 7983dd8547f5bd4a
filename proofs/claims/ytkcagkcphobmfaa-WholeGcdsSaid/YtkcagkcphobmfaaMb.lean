/-
  THE ABSTRACT MACHINE, 2: what an operation does, reckoned on what the slots hold; that the model does so. No condition; nothing of the program.
-/
import Derived.Test.YtkcagkcphobmfaaMa
set_option linter.unusedVariables false
set_option linter.unusedSimpArgs false
namespace Go.Proofs.Ytkcagkcphobmfaa
open Go.RowKit

/-- What is asked of a type. -/
structure TI where
  n : Nat
  agg : Bool
  zero : List Value
  fs : List (Nat × TypeId)
  elem : Option TypeId
  bytes : Nat
  ik : Option IntKind
  bo : Bool

def tiOf (P : Program) (t : TypeId) : Option TI :=
  match P.info? t with
  | none => none
  | some i => match i.zero with
    | none => none
    | some z => match P.underlying t with
      | none => none
      | some d => if z.cells.toList.all (·.oneCell') = false then none else some { n := i.size, agg := d.isRow, zero := z.cells.toList, fs := (match d with | .struct fs => fs.toList.map fun f => (f.offset, f.type) | _ => []), elem := (match d with | .slice e => some e | _ => none), bytes := i.bytes, ik := (match d with | .int k => some k | _ => none), bo := (match d with | .bool => true | _ => false) }

section
variable {P : Program} {t : TypeId} {ti : TI}

theorem ti_parts (h : tiOf P t = some ti) : ∃ i z d, P.info? t = some i ∧ i.zero = some z ∧ P.underlying t = some d ∧ i.size = ti.n ∧ z.cells.toList = ti.zero ∧ d.isRow = ti.agg ∧ i.bytes = ti.bytes ∧
    (∀ (f o : Nat) (u : TypeId), ti.fs[f]? = some (o, u) → ∃ (fs : Array Field) (fd : Field), d = .struct fs ∧ fs[f]? = some fd ∧ fd.offset = o ∧ fd.type = u) ∧ (∀ e, ti.elem = some e → d = .slice e) ∧ (∀ k, ti.ik = some k → d = .int k) ∧ (ti.bo = true → d = .bool) ∧ (∀ c ∈ ti.zero, c.oneCell' = true) := by
  unfold tiOf at h
  split at h
  · cases h
  · rename_i i hi
    split at h
    · cases h
    · rename_i z hz
      split at h
      · cases h
      · rename_i d hd
        split at h
        · cases h
        rename_i hall
        cases h
        refine ⟨i, z, d, hi, hz, hd, rfl, rfl, rfl, rfl, ?_, ?_, ?_, ?_, ?_⟩
        · intro f o u hf
          cases d <;> simp at hf
          rename_i fs
          obtain ⟨fd, h1, h2, h3⟩ := hf
          exact ⟨fs, fd, rfl, h1, h2, h3⟩
        · intro e he
          cases d <;> simp at he
          rw [he]
        · intro k he
          cases d <;> simp at he
          rw [he]
        · intro he
          cases d <;> simp at he
          rfl
        · intro c hc
          simp only [Bool.not_eq_false] at hall
          exact List.all_eq_true.1 hall c hc

theorem ti_load {w : World} {b o : Nat} {cs : List Value} (h : tiOf P t = some ti) (ha : ti.agg = true) (hc : w.rangeAt b o cs) (hl : cs.length = ti.n) : (Instr.loadAt t (.pointer (some ⟨b, o, none⟩))).run P w = .ok (.agg cs.toArray) w := by
  obtain ⟨i, z, d, h1, h2, h3, h4, h5, h6, _⟩ := ti_parts h
  exact run_loadAt_mid w b o t cs d hc h3 (h6.trans ha) (by rw [h1, hl, ← h4]; rfl)

theorem ti_load1 {w : World} {b o : Nat} {v : Value} (h : tiOf P t = some ti) (ha : ti.agg = false) (hc : w.cell? ⟨b, o, none⟩ = some v) : (Instr.loadAt t (.pointer (some ⟨b, o, none⟩))).run P w = .ok v w := by
  obtain ⟨i, z, d, h1, h2, h3, h4, h5, h6, _⟩ := ti_parts h
  have hd : (isAgg t).run P w = .ok false w := by
    unfold isAgg
    rw [Sem.run_bind, run_underlying h3 w]
    rw [ha] at h6
    cases d <;> first | rfl | (exact absurd h6 Bool.noConfusion)
  simp [Instr.loadAt, Instr.sureAddr, loadVar, Sem.run_bind, hd, hc]

theorem ti_store {w : World} {b o : Nat} {v : Value} {cs : List Value} (h : tiOf P t = some ti) (hv : v.cells = cs.toArray) (hl : cs.length = ti.n) (ht : w.there b o cs.length) (h1 : ∀ c ∈ cs, c.oneCell' = true) :
    (Instr.storeAt t (.pointer (some ⟨b, o, none⟩)) v).run P w = .ok () (w.setCells b o cs) := by
  obtain ⟨i, z, d, h1', h2, h3, h4, h5, h6, _⟩ := ti_parts h
  have := run_storeCells_cells (P := P) b o cs 0 w (fun j hj => (ht j hj).1) (fun j hj => (ht j hj).2) h1
  simp only [Nat.add_zero] at this
  have hs : ¬ cs.length ≠ i.size := by omega
  simp [Instr.storeAt, Instr.sureAddr, storeVar, sizeOf, typeInfo, h1', hv, hs, this]

theorem ti_alloc {w : World} (h : tiOf P t = some ti) : (Instr.alloc t true (.tuple #[])).run P w = .ok (.pointer (some ⟨w.heap.size, 0, none⟩)) (w.alloc (.cells ti.zero.toArray t)) := by
  obtain ⟨i, z, d, h1, h2, h3, h4, h5, h6, _⟩ := ti_parts h
  rw [← h5]
  simp [Instr.alloc, zeroValue, typeInfo, h1, h2, newVar, newRow]

theorem ti_box {w : World} {v : Value} {cs : List Value} (hv : v.cells = cs.toArray) : (Instr.box t v).run P w = .ok (.pointer (some ⟨w.heap.size, 0, none⟩)) (w.alloc (.cells cs.toArray t)) := by
  simp [Instr.box, newVar, newRow, hv]

theorem add_lit (b o n : Nat) : (⟨b, o, none⟩ : Addr).add n = ⟨b, o + n, none⟩ := Addr.add_mid b o n

theorem ti_field {w : World} {b o : Nat} {f off : Nat} {u : TypeId} {tu : TI} (h : tiOf P t = some ti) (hf : ti.fs[f]? = some (off, u)) (hu : tiOf P u = some tu) (hn : tu.n ≠ 0) :
    (Instr.fieldAt t (.pointer (some ⟨b, o, none⟩)) f).run P w = .ok (.pointer (some ⟨b, o + off, none⟩)) w := by
  obtain ⟨i, z, d, h1, h2, h3, h4, h5, h6, h7, h8, _⟩ := ti_parts h
  obtain ⟨fs, fd, rfl, h9, h10, h11⟩ := h8 f off u hf
  obtain ⟨i', z', d', k1, k2, k3, k4, _⟩ := ti_parts hu
  have hz : ¬ i'.size = 0 := by omega
  subst h10; subst h11
  simp [Instr.fieldAt, run_underlying h3, h9, Instr.sureAddr, fieldPlace, sizeOf, typeInfo, k1, hz, add_lit]

theorem ti_part {w : World} {cs : List Value} {off : Nat} (h : tiOf P t = some ti) : (part t cs.toArray off).run P w = if ti.agg = true then .ok (.agg ((cs.drop off).take ti.n).toArray) w else match cs[off]? with | some v => .ok v w | none => .halt (.stuck "part: no such cell") w := by
  obtain ⟨i, z, d, h1, h2, h3, h4, h5, h6, _⟩ := ti_parts h
  have hd : (isAgg t).run P w = .ok ti.agg w := by
    unfold isAgg
    rw [Sem.run_bind, run_underlying h3 w, ← h6]
    cases d <;> rfl
  rw [← h4]
  unfold part
  cases ha : ti.agg
  · rw [ha] at hd
    simp [hd]
    cases cs[off]? <;> simp
  · rw [ha] at hd
    simp [hd, sizeOf, typeInfo, h1]
end

/-- A table of types is right. -/
def TOk (P : Program) (T : TypeId → Option TI) : Prop := ∀ t ti, T t = some ti → tiOf P t = some ti

/-- What an operand holds. -/
def geto (s : AS) : Operand → Option AV
  | .tmp t => lk s.sl t
  | .const (.agg _) | .const (.tuple _) => none
  | .const v => some (.d (.one (.v v)))
  | .func f => some (.d (.one (.fn f 0 fun _ => .v undef)))
  | .global _ => none

theorem geto_ok {s : AS} {ρ : Rho} {B : BS} {w : World} {a : Act} {x : Operand} {av : AV} (hs : Slots ρ B w s.sl a) (h : geto s x = some av) : AR ρ B w av (a.eval x) := by
  cases x with
  | tmp t =>
    obtain ⟨v, hv, hr⟩ := hs t av h
    have : a.eval (.tmp t) = v := by simp [Act.eval, Array.getD_eq_getD_getElem?, hv]
    rw [this]; exact hr
  | const v =>
    cases v <;> simp only [geto, Option.some.injEq, reduceCtorEq] at h <;> (subst h; exact ⟨rfl, rfl⟩)
  | func f =>
    simp only [geto, Option.some.injEq] at h
    subst h
    exact ⟨#[], rfl, rfl, fun j hj => absurd hj (Nat.not_lt_zero _)⟩
  | global g => simp [geto] at h

def cmpV (op : BinOp) (a b : Int) : Option Value :=
  match op with
  | .eql => some (.bool (a == b)) | .neq => some (.bool (a != b)) | .lss => some (.bool (a < b)) | .leq => some (.bool (a ≤ b)) | .gtr => some (.bool (a > b)) | .geq => some (.bool (a ≥ b))
  | _ => none

/-- Integers, bools, strings. -/
def binV (bo : Bool) (op : BinOp) : Value → Value → Option Value
  | .int k a, .int k' b =>
    if op = .shl then (if b < 0 then none else some (.int k (k.wrap (a * 2 ^ (min b.toNat k.bits)))))
    else if op = .shr then (if b < 0 then none else some (.int k (a.fdiv (2 ^ (min b.toNat k.bits)))))
    else if k = k' then
      match op with
      | .add => some (.int k (k.wrap (a + b)))
      | .sub => some (.int k (k.wrap (a - b)))
      | .mul => some (.int k (k.wrap (a * b)))
      | .quo => if b = 0 then none else some (.int k (k.wrap (a.tdiv b)))
      | .rem => if b = 0 then none else some (.int k (a.tmod b))
      | .or => some (.int k (k.wrap ((BitVec.ofInt k.bits a ||| BitVec.ofInt k.bits b).toNat : Int)))
      | .shl | .shr | .and | .xor | .andNot => none
      | .eql => some (.bool (a == b)) | .neq => some (.bool (a != b)) | .lss => some (.bool (a < b)) | .leq => some (.bool (a ≤ b)) | .gtr => some (.bool (a > b)) | .geq => some (.bool (a ≥ b))
    else none
  | .bool a, .bool b =>
    match bo, op with
    | true, .eql => some (.bool (a == b))
    | true, .neq => some (.bool (!(a == b)))
    | _, _ => none
  | .string a, .string b =>
    match op with
    | .eql => some (.bool (a.toList == b.toList))
    | .neq => some (.bool (!(a.toList == b.toList)))
    | .add => if a.size + b.size ≤ 9223372036854775807 then some (.string (a ++ b)) else none
    | _ => none
  | _, _ => none

theorem binV_ok {P : Program} {w : World} {op : BinOp} {t : TypeId} {ti : TI} {x y r : Value} {ox oy : Operand} (hti : tiOf P t = some ti) (h : binV ti.bo op x y = some r) :
    (do eqGuard op t ox oy x y; binOp op t x y : Sem Value).run P w = .ok r w := by
  unfold binV at h
  split at h
  · rename_i k a k' b
    split at h
    · rename_i hop
      subst hop
      split at h
      · cases h
      · rename_i hb
        cases h
        have hg : (eqGuard .shl t ox oy (.int k a) (.int k' b)).run P w = .ok () w := rfl
        rw [Sem.run_bind, hg, Result.andThen_ok]
        simp [binOp, Op.shift, hb]
    split at h
    · rename_i hop
      subst hop
      split at h
      · cases h
      · rename_i hb
        cases h
        have hg : (eqGuard .shr t ox oy (.int k a) (.int k' b)).run P w = .ok () w := rfl
        rw [Sem.run_bind, hg, Result.andThen_ok]
        simp [binOp, Op.shift, hb]
    split at h
    · rename_i hk
      subst hk
      have hg : (eqGuard op t ox oy (.int k a) (.int k b)).run P w = .ok () w := by cases op <;> rfl
      rw [Sem.run_bind, hg, Result.andThen_ok]
      cases op <;> simp only [Option.some.injEq, reduceCtorEq] at h <;> first
        | (subst h; simp [binOp, Op.intArith, Op.intCmp, Op.intBits]; done)
        | (exfalso; simp at *; done)
        | (split at h
           · cases h
           · rename_i hb
             cases h
             simp [binOp, Op.intDiv, hb])
    · cases h
  · rename_i a b
    cases hb : ti.bo
    · rw [hb] at h; cases op <;> simp at h
    · obtain ⟨i, z, d, h1, h2, h3, _, _, _, _, _, _, _, h4, _⟩ := ti_parts hti
      have hd := h4 hb
      subst hd
      rw [hb] at h
      cases op <;> simp only [Option.some.injEq, reduceCtorEq] at h
      all_goals
        subst h
        have hg : ∀ op, (eqGuard op t ox oy (.bool a) (.bool b)).run P w = .ok () w := by intro op; cases op <;> rfl
        rw [Sem.run_bind, hg, Result.andThen_ok]
        simp [binOp, run_equal_bool w t a b h3]
  · rename_i a b
    have hg : (eqGuard op t ox oy (.string a) (.string b)).run P w = .ok () w := by cases op <;> rfl
    rw [Sem.run_bind, hg, Result.andThen_ok]
    cases op <;> simp only [Option.some.injEq, reduceCtorEq] at h <;> first
      | (subst h; simp [binOp, Op.stringOp]; done)
      | (split at h
         · rename_i hs
           cases h
           have : ¬ ((a.size + b.size : Nat) : Int) > IntKind.i64.max := by
             simp [IntKind.max, IntKind.signed, IntKind.bits]; omega
           simp [binOp, Op.stringOp, IntKind.max, IntKind.signed, IntKind.bits]
           omega
         · cases h)
  · cases h

end Go.Proofs.Ytkcagkcphobmfaa
