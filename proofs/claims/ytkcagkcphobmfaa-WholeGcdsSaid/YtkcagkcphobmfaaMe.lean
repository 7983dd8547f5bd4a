/-
  THE ABSTRACT MACHINE, 5: operations that make an object of the frame's own, or write one. No condition; nothing of the program.
-/
import Derived.Test.YtkcagkcphobmfaaMd
set_option linter.unusedVariables false
set_option linter.unusedSimpArgs false
namespace Go.Proofs.Ytkcagkcphobmfaa
open Go.RowKit

/-- AN OPERATION THAT MAKES AN OBJECT. -/
def evN (T : TypeId → Option TI) (s : AS) : Op → Option AO
  | .alloc t => match T t with
    | some ti => some (.box t (ti.zero.map Lf.v))
    | none => none
  | .box t x => match geto s x with
    | some (.d d) => some (.box t d.cells)
    | _ => none
  | .makeSlice t l c => match T t with
    | none => none
    | some ti => match ti.elem with
      | none => none
      | some e => match T e, ints2 s l, ints2 s c with
        | some te, some (_, zl), some (_, zc) => if 0 ≤ zl ∧ zl ≤ zc ∧ (te.bytes : Int) * zc ≤ 140737488355328 ∧ zc ≤ 9223372036854775807 ∧ te.zero.length = te.n then some (.row e te.n zl.toNat fun _ j => .v ((te.zero[j]?).getD undef)) else none
        | _, _, _ => none
  | _ => none

/-- A row written out: data that nobody writes. -/
def evB (T : TypeId → Option TI) (s : AS) : Op → Option AV
  | .buildSlice t len parts => match T t with
    | none => none
    | some ti => match ti.elem with
      | none => none
      | some e => match T e, getps s parts.toList with
        | some te, some ps => if te.zero.length = te.n ∧ te.n ≠ 0 ∧ len * te.n ≤ 16777216 then match fillL (fun i => some (i * te.n, te.n)) ((List.range (len * te.n)).map fun q => Lf.v ((te.zero[q % te.n]?).getD undef)) ps with
          | some r => one (.row te.n len fun i j => (r[i * te.n + j]?).getD (.v undef))
          | none => none
          else none
        | _, _ => none
  | _ => none

theorem alloc_bel (w : World) (o : Obj) : Below w.heap.size w (w.alloc o) := (Below.refl _ _).alloc (Nat.le_refl _) _

def AO.av : AO → Nat → AV
  | .box _ _, id => .ptr id 0
  | .row _ _ _ _, id => .own id

theorem AO.av_ok {ρ : Rho} {B B' : BS} {w0 w : World} {ob : AO} {id : Nat} {v : Value} (h : OR B w0 w ob v) (hr : ρ id = some v) : AR ρ B' w (ob.av id) v := by
  cases ob with
  | box t cs =>
    obtain ⟨g, vs, rfl, _⟩ := h
    exact ⟨g, hr, rfl⟩
  | row e sz n el =>
    obtain ⟨xs, ⟨_, ⟨rfl, _⟩ | ⟨g, cap, cur, rfl, _⟩⟩, _⟩ := h
    · exact ⟨hr, none, 0, 0, rfl⟩
    · exact ⟨hr, _, _, _, rfl⟩

theorem made_get (z : List Value) (n j : Nat) (hj : j < n) (hz : 0 < z.length) : (madeCells z.toArray n).toList[j]? = some (z[j % z.length]'(Nat.mod_lt _ hz)) := by
  simp [madeCells, hj, Nat.mod_lt _ hz]

theorem evN_ok {P : Program} {T : TypeId → Option TI} (hT : TOk P T) {s : AS} {o : Oper} {ob : AO} {ρ : Rho} {B0 : BS} {w0 w : World} {hp : List (Nat × AO)} {a : Act} (hsl : Slots ρ (Bd ρ B0) w s.sl a) (hc : Core ρ B0 w0 w hp) (h : evN T s o.op = some ob) :
    ∃ v w', (execOp a.eval o).run P w = .ok (.value v) w' ∧ Below w.heap.size w w' ∧ (∀ b, vblk v = some b → w.heap.size ≤ b) ∧ ∀ B', (∀ b, b < w.heap.size → B' b → Bd ρ B0 b) → OR B' w0 w' ob v := by
  unfold evN at h
  unfold execOp
  split at h
  · rename_i t hop
    rw [hop]
    split at h
    · rename_i ti hti
      replace hti := hT _ _ hti
      cases h
      have hone : ∀ c ∈ ti.zero, c.oneCell' = true := by
        obtain ⟨_, _, _, _, _, _, _, _, _, _, _, _, _, _, hall⟩ := ti_parts hti
        exact hall
      refine ⟨_, _, run_value (ti_alloc hti), alloc_bel _ _, fun b hb => by cases hb; exact Nat.le_refl _, fun B' hB => ⟨_, ti.zero, rfl, hc.bel.size, Blk.new w t _, LsR.vs hone⟩⟩
    · cases h
  · rename_i t x hop
    rw [hop]
    split at h
    · rename_i d hx
      cases h
      obtain ⟨cs, h1, h2⟩ := DR.cells (geto_ok hsl hx)
      refine ⟨_, _, run_value (ti_box h1), alloc_bel _ _, fun b hb => by cases hb; exact Nat.le_refl _, fun B' hB => ⟨_, cs, rfl, hc.bel.size, Blk.new w t _, h2.mv (.of_below (alloc_bel _ _)) hB⟩⟩
    · cases h
  · rename_i t l c hop
    rw [hop]
    split at h
    · cases h
    rename_i ti hti
    replace hti := hT _ _ hti
    split at h
    · cases h
    rename_i e he
    split at h
    · rename_i te kl zl kc zc hte hl hcc
      replace hte := hT _ _ hte
      split at h
      · rename_i hcond
        obtain ⟨h0, hlc, hby, hmax, hzl⟩ := hcond
        cases h
        have hle := ints2_ok hsl hl
        have hce := ints2_ok hsl hcc
        obtain ⟨i, z, dd, h1, h2, h3, h4, h5, h6, h7, h8, h9, _⟩ := ti_parts hti
        have := h9 e he
        subst this
        obtain ⟨i', z', dd', k1, k2, k3, k4, k5, k6, k7, _, _, _, _, hall⟩ := ti_parts hte
        have hr := run_make (P := P) w t e i' z' h3 k1 k2 kl kc zl zc h0 hlc (by rw [k7]; omega) (by omega)
        refine ⟨_, _, run_value (by rw [hle, hce]; exact hr), alloc_bel _ _, fun b hb => by cases hb; exact Nat.le_refl _, fun B' hB => ?_⟩
        have hzs : z'.cells.size = te.n := by rw [← hzl, ← k5]; simp
        have hsz : (madeCells z'.cells (zc.toNat * i'.size)).size = zc.toNat * te.n := by simp [madeCells, k4]
        have hcap : zl.toNat ≤ zc.toNat := by omega
        have hmul : zl.toNat * te.n ≤ zc.toNat * te.n := Nat.mul_le_mul_right _ hcap
        refine ⟨((madeCells z'.cells (zc.toNat * i'.size)).toList).take (zl.toNat * te.n), ⟨by rw [List.length_take, Array.length_toList, hsz, Nat.min_eq_left hmul], Or.inr ⟨w.heap.size, zc.toNat, _, rfl, hc.bel.size, heap_alloc_new w _, hcap, by simp [maxLen]; omega, hsz, rfl⟩⟩, fun p q hp hq => ?_⟩
        have hidx : p * te.n + q < zl.toNat * te.n := by
          have : (p + 1) * te.n ≤ zl.toNat * te.n := Nat.mul_le_mul_right _ (by omega)
          rw [Nat.add_mul, Nat.one_mul] at this
          omega
        have hz' : z'.cells = te.zero.toArray := by rw [← k5]
        have hpos : 0 < te.zero.length := by omega
        refine ⟨(te.zero[q]?).getD undef, ?_, rfl, ?_⟩
        · rw [List.getElem?_take, if_pos hidx, hz', made_get _ _ _ (by rw [k4]; omega) hpos]
          have : (p * te.n + q) % te.zero.length = q := by rw [hzl, Nat.mul_comm, Nat.mul_add_mod, Nat.mod_eq_of_lt hq]
          simp [this, List.getElem?_eq_getElem (show q < te.zero.length by omega)]
        · rw [List.getElem?_eq_getElem (show q < te.zero.length by omega)]
          exact hall _ (List.getElem_mem _)
      · cases h
    · cases h
  · cases h

theorem evB_ok {P : Program} {T : TypeId → Option TI} (hT : TOk P T) {s : AS} {o : Oper} {av : AV} {ρ : Rho} {B0 : BS} {w0 w : World} {hp : List (Nat × AO)} {a : Act} (hsl : Slots ρ (Bd ρ B0) w s.sl a) (hc : Core ρ B0 w0 w hp) (h : evB T s o.op = some av) :
    ∃ v w', (execOp a.eval o).run P w = .ok (.value v) w' ∧ Below w.heap.size w w' ∧ AR ρ (Bd ρ B0) w' av v := by
  unfold evB at h
  unfold execOp
  split at h
  · rename_i t len parts hop
    rw [hop]
    split at h
    · cases h
    rename_i ti hti
    replace hti := hT _ _ hti
    split at h
    · cases h
    rename_i e he
    split at h
    · rename_i te ps hte hps
      replace hte := hT _ _ hte
      split at h
      · rename_i hcond
        obtain ⟨hzl, hn0, hsm⟩ := hcond
        split at h
        · rename_i r hr
          cases h
          obtain ⟨i, z, dd, h1, h2, h3, h4, h5, h6, h7, h8, h9, _⟩ := ti_parts hti
          have := h9 e he
          subst this
          obtain ⟨i', z', dd', k1, k2, k3, k4, k5, k6, k7, _, _, _, _, hall⟩ := ti_parts hte
          have hz' : z'.cells = te.zero.toArray := by rw [← k5]
          obtain ⟨g1, g2⟩ := getps_ok hsl parts.toList ps hps
          have hpos : 0 < te.n := by omega
          have hbase : LsR (Bd ρ B0) w ((List.range (len * te.n)).map fun q => Lf.v ((te.zero[q % te.n]?).getD undef)) ((List.range (len * te.n)).map fun q => (te.zero[q % te.n]?).getD undef) := by
            have := LsR.vs (B := Bd ρ B0) (w := w) (cs := (List.range (len * te.n)).map fun q => (te.zero[q % te.n]?).getD undef) (fun c hcm => by
              obtain ⟨q, _, rfl⟩ := List.mem_map.1 hcm
              rw [List.getElem?_eq_getElem (show q % te.n < te.zero.length by rw [hzl]; exact Nat.mod_lt _ hpos)]
              exact hall _ (List.getElem_mem _))
            rwa [List.map_map] at this
          obtain ⟨rs, hfill, hrs⟩ := fillL_ok (fun i => some (i * te.n, te.n)) ps _ _ r _ hbase hr g1 g2
          have hrl : ∀ (ps : List (Nat × List Lf)) (l r : List Lf), fillL (fun i => some (i * te.n, te.n)) l ps = some r → r.length = l.length := by
            intro ps
            induction ps with
            | nil => intro l r h; simp only [fillL, Option.some.injEq] at h; rw [h]
            | cons p ps ih =>
              intro l r h
              simp only [fillL] at h
              split at h
              · rename_i hcnd
                rw [ih _ _ h]
                simp [layC]; omega
              · cases h
          have hlen : rs.length = len * te.n := by rw [← hrs.len, hrl _ _ _ hr]; simp
          have hm : (parts.map fun x : Nat × Operand => match x with | (i, x) => (i, a.eval x)).toList = parts.toList.map fun q : Nat × Operand => (q.1, a.eval q.2) := by rw [Array.toList_map]
          have hgt : ¬ len * i'.size > 2 ^ 24 := by rw [k4]; omega
          have hrun : (Instr.buildSlice t len (parts.map fun x : Nat × Operand => match x with | (i, x) => (i, a.eval x))).run P w = .ok (.slice (some ⟨w.heap.size, 0, none⟩) len len) (w.alloc (.cells rs.toArray e)) := by
            have hA : ∀ zc : Array Value, (len * te.n = 0 ∨ zc = te.zero.toArray) → (Array.range (len * te.n)).map (fun q => zc[q % zc.size]!) = ((List.range (len * te.n)).map fun q => (te.zero[q % te.n]?).getD undef).toArray := by
              rintro zc (h0 | rfl)
              · rw [h0]; simp
              · rw [← Array.toList_inj]
                simp only [Array.toList_map, Array.toList_range]
                refine List.map_congr_left (fun q _ => ?_)
                have hq : q % te.n < te.zero.length := by rw [hzl]; exact Nat.mod_lt _ hpos
                simp [hzl, getElem!_def, List.getElem?_eq_getElem hq]
            have hfin : ∀ zc : Array Value, (len * te.n = 0 ∨ zc = te.zero.toArray) → (do
                let some cells := Instr.fill (fun i => some (i * te.n, te.n)) ((Array.range (len * te.n)).map (fun q => zc[q % zc.size]!)) (parts.map fun x : Nat × Operand => match x with | (i, x) => (i, a.eval x)).toList | stuck "buildSlice: a part of the wrong size"
                pure (.slice (some (← newRow e cells)) len len) : Sem Value).run P w = .ok (.slice (some ⟨w.heap.size, 0, none⟩) len len) (w.alloc (.cells rs.toArray e)) := by
              intro zc hz
              rw [hA zc hz, hm, hfill]
              rfl
            unfold Instr.buildSlice
            simp only [Sem.run_bind, run_underlying h3, Result.andThen_ok, sizeOf, typeInfo, run_program, k1, Sem.run_pure, k4]
            rw [if_neg (by omega)]
            by_cases hl0 : len * te.n = 0
            · rw [if_pos hl0]
              simp only [Sem.run_pure, Result.andThen_ok, Sem.run_bind]
              exact hfin #[] (Or.inl hl0)
            · rw [if_neg hl0]
              simp only [Sem.run_bind, zeroValue, typeInfo, run_program, Result.andThen_ok, k1, Sem.run_pure, k2, hz']
              exact hfin _ (Or.inr rfl)
          refine ⟨_, _, run_value hrun, alloc_bel _ _, some ⟨w.heap.size, 0, none⟩, len, rfl, Nat.le_refl _, (fun h => by cases h), fun p hp => ⟨w.heap.size, 0, rfl, fun hB => ?_, by simp, fun q hq => ?_⟩⟩
          · have := hc.bdlt _ hB; omega
          · have hidx : p * te.n + q < len * te.n := by
              have : (p + 1) * te.n ≤ len * te.n := Nat.mul_le_mul_right _ (by omega)
              rw [Nat.add_mul, Nat.one_mul] at this
              omega
            have hrlen : r.length = len * te.n := by rw [hrs.len, hlen]
            obtain ⟨l, hl⟩ : ∃ l, r[p * te.n + q]? = some l := ⟨r[p * te.n + q], by simp [hrlen, hidx]⟩
            obtain ⟨cc, hcc, hlr⟩ := hrs.get hl
            refine ⟨cc, ?_, ?_⟩
            · obtain ⟨q1, q2⟩ := List.getElem?_eq_some_iff.1 hcc
              rw [Nat.zero_add, ← q2]
              exact (Blk.new w e rs).cell _ q1
            · show LfR _ _ ((r[p * te.n + q]?).getD _) cc
              rw [hl]
              exact LfR.mv (.of_below (alloc_bel _ _)) (fun _ _ hB => hB) _ hlr
        · cases h
      · cases h
    · cases h
  · cases h

end Go.Proofs.Ytkcagkcphobmfaa
