/-
  THE ABSTRACT MACHINE, 4: what an operation makes of a frame's state, and that the model does so. No condition; nothing of the program.
-/
import Derived.Test.YtkcagkcphobmfaaMc
set_option linter.unusedVariables false
set_option linter.unusedSimpArgs false
namespace Go.Proofs.Ytkcagkcphobmfaa
open Go.RowKit

def one (l : Lf) : Option AV := some (.d (.one l))
def someD : Option DV → Option AV
  | some d => some (.d d)
  | none => none

/-- A bound of a slice. -/
def bndV (s : AS) (x : Option Operand) (d : Nat) : Option Nat := match x with
  | none => some d
  | some x => match ints2 s x with
    | some (_, z) => if 0 ≤ z then some z.toNat else none
    | none => none
theorem bndV_ok {P : Program} {s : AS} {ρ : Rho} {B : BS} {w : World} {a : Act} {x : Operand} {d r y : Nat} {code : BoundsCode} (hs : Slots ρ B w s.sl a) (h : bndV s (some x) d = some r) (hy : r ≤ y) : (Instr.sliceBound (a.eval x) y code).run P w = .ok r w := by
  unfold bndV at h
  simp only at h
  split at h
  · rename_i k z hx
    split at h
    · rename_i hz
      cases h
      have he := ints2_ok hs hx
      have hzy : 0 ≤ z ∧ z ≤ (y : Int) := ⟨hz, by omega⟩
      simp [Instr.sliceBound, he, asIntOf, hzy]
    · cases h
  · cases h

/-- AN OPERATION THAT MAKES A VALUE. -/
def evV (T : TypeId → Option TI) (s : AS) : Op → Option AV
  | .move x | .assign x => geto s x
  | .pick c a b => match geto s c with
    | some (.d (.one (.v (.bool t)))) => if t = true then geto s a else geto s b
    | _ => none
  | .load t x => match T t with
    | none => none
    | some ti => match geto s x with
      | some (.ptr id off) => match lk s.hp id with
        | some (.box _ cs) => someD (partV ti cs off)
        | _ => none
      | some (.eptr id sz i j) => match lk s.hp id with
        | some (.row _ sz' n el) => if sz = sz' ∧ j ≤ sz then someD (loadC ti (sz - j) fun q => el i (j + q)) else none
        | _ => none
      | some (.d (.one (.at m cs))) => someD (loadC ti m cs)
      | _ => none
  | .binOp op t x y _ => match T t, geto s x, geto s y with
    | some ti, some (.d (.one (.v a))), some (.d (.one (.v b))) => match binV ti.bo op a b with
      | some r => one (.v r)
      | none => none
    | _, _, _ => none
  | .unOp op _ x => match op, geto s x with
    | .not, some (.d (.one (.v (.bool b)))) => one (.v (.bool (!b)))
    | .neg, some (.d (.one (.v (.int k n)))) => one (.v (.int k (k.wrap (0 - n))))
    | _, _ => none
  | .convert src dst x => match T src, T dst, geto s x with
    | some _, some ti, some (.d (.one (.v (.int _ n)))) => match ti.ik with
      | some k => one (.v (.int k (k.wrap n)))
      | none => none
    | _, _, _ => none
  | .fieldAddr t x f => match T t with
    | none => none
    | some ti => match ti.fs[f]? with
      | none => none
      | some (off, u) => match T u with
        | none => none
        | some tu => if tu.n = 0 then none else match geto s x with
          | some (.ptr id o) => some (.ptr id (o + off))
          | some (.eptr id sz i j) => some (.eptr id sz i (j + off))
          | some (.d (.one (.at m cs))) => if off ≤ m then one (.at (m - off) fun q => cs (off + q)) else none
          | _ => none
  | .field t x f => match T t with
    | none => none
    | some ti => match ti.fs[f]? with
      | none => none
      | some (off, u) => match T u, geto s x with
        | some tu, some (.d (.agg ls)) => someD (partV tu ls off)
        | _, _ => none
  | .extract x i => match geto s x with
    | some (.tup xs) => someD (xs[i]?)
    | _ => none
  | .indexAddr t x ix => match T t with
    | none => none
    | some ti => match ti.elem with
      | none => none
      | some e => match T e, ints2 s ix with
        | some te, some (_, z) => match geto s x with
          | some (.d (.one (.row sz n el))) => if sz = te.n ∧ 0 ≤ z ∧ z < (n : Int) then one (.at sz (el z.toNat)) else none
          | some (.own id) => match lk s.hp id with
            | some (.row _ sz n el) => if sz = te.n ∧ 0 ≤ z ∧ z < (n : Int) then some (.eptr id sz z.toNat 0) else none
            | _ => none
          | _ => none
        | _, _ => none
  | .slice t x lo hi none => match T t with
    | none => none
    | some ti => match ti.elem with
      | none => none
      | some e => match T e, geto s x with
        | some te, some (.d (.one (.row sz n el))) => match bndV s lo 0, bndV s hi n with
          | some l, some h => if sz = te.n ∧ l ≤ h ∧ h ≤ n then one (.row sz (h - l) fun i j => el (l + i) j) else none
          | _, _ => none
        | _, _ => none
  | .build t parts => match T t with
    | none => none
    | some ti => match ti.fs with
      | [] => none
      | f :: fs => match placesOf T (f :: fs), getps s parts.toList with
        | some pl, some ps => match fillL (fun i => pl[i]?) (ti.zero.map Lf.v) ps with
          | some r => some (.d (.agg r))
          | none => none
        | _, _ => none
  | .call c => match c.callee with
    | .builtin .len => match c.args.toList, c.argTypes[0]? with
      | [x], some t => match T t with
        | none => none
        | some ti => match ti.elem, geto s x with
          | some _, some (.d (.one (.row sz n el))) => one (.v (.int .i64 n))
          | some _, some (.d (.one (.ln n S))) => one (.v (.int .i64 n))
          | some _, some (.d (.one (.v (.slice _ n _)))) => one (.v (.int .i64 n))
          | some _, some (.own id) => match lk s.hp id with
            | some (.row _ sz n el) => one (.v (.int .i64 n))
            | _ => none
          | _, _ => none
      | _, _ => none
    | .builtin .max => match getls s c.args.toList with
      | some (.v (.int k x) :: r) => match minV k true x r with
        | some z => one (.v (.int k z))
        | none => none
      | _ => none
    | .builtin .min => match getls s c.args.toList with
      | some (.v (.int k x) :: r) => match minV k false x r with
        | some z => one (.v (.int k z))
        | none => none
      | _ => none
    | _ => none
  | .makeFunc (.func f) fi caps => match fi.toList, getls s caps.toList with
    | [], some ls => one (.fn f ls.length fun j => (ls[j]?).getD (.v undef))
    | _, _ => none
  | _ => none

theorem run_value {P : Program} {w w' : World} {x : Sem Value} {v : Value} (h : x.run P w = .ok v w') : (do pure (.value (← x)) : Sem Next).run P w = .ok (.value v) w' := by
  simp [h]

theorem minV_min {P : Program} {w : World} {k : IntKind} : ∀ (r : List Lf) (vs : List Value) (x z : Int) {B : BS}, LsR B w r vs → minV k false x r = some z → (vs.foldlM Builtin.min2 (.int k x)).run P w = .ok (.int k z) w
  | [], [], x, z, B, _, h => by
    simp only [minV, Option.some.injEq] at h
    subst h; rfl
  | l :: r, v :: vs, x, z, B, hl, h => by
    unfold minV at h
    split at h
    · rename_i he
      cases he
    · rename_i heq
      cases heq
      split at h
      · rename_i hk
        subst hk
        obtain ⟨hv, _⟩ := hl.1
        subst hv
        have := minV_min (P := P) r vs _ z hl.2 h
        simp only [List.foldlM_cons, Sem.run_bind, Builtin.min2, Sem.run_pure, Result.andThen_ok]
        simpa using this
      · cases h
    · cases h
theorem minV_max {P : Program} {w : World} {k : IntKind} : ∀ (r : List Lf) (vs : List Value) (x z : Int) {B : BS}, LsR B w r vs → minV k true x r = some z → (vs.foldlM Builtin.max2 (.int k x)).run P w = .ok (.int k z) w
  | [], [], x, z, B, _, h => by
    simp only [minV, Option.some.injEq] at h
    subst h; rfl
  | l :: r, v :: vs, x, z, B, hl, h => by
    unfold minV at h
    split at h
    · rename_i he
      cases he
    · rename_i heq
      cases heq
      split at h
      · rename_i hk
        subst hk
        obtain ⟨hv, _⟩ := hl.1
        subst hv
        have := minV_max (P := P) r vs _ z hl.2 h
        simp only [List.foldlM_cons, Sem.run_bind, Builtin.max2, Sem.run_pure, Result.andThen_ok]
        simpa using this
      · cases h
    · cases h

set_option maxHeartbeats 4000000 in
/-- THE MODEL DOES SO. -/
theorem evV_ok {P : Program} {T : TypeId → Option TI} (hT : TOk P T) {s : AS} {o : Oper} {av : AV} {ρ : Rho} {B0 : BS} {w0 w : World} {hp : List (Nat × AO)} {a : Act} (hsl : Slots ρ (Bd ρ B0) w s.sl a) (hc : Core ρ B0 w0 w hp) (hhp : ∀ id ob, lk s.hp id = some ob → lk hp id = some ob)
    (h : evV T s o.op = some av) : ∃ v, (execOp a.eval o).run P w = .ok (.value v) w ∧ AR ρ (Bd ρ B0) w av v := by
  unfold evV at h
  unfold execOp
  split at h
  · rename_i x hop; rw [hop]; exact ⟨_, rfl, geto_ok hsl h⟩
  · rename_i x hop; rw [hop]; exact ⟨_, rfl, geto_ok hsl h⟩
  · rename_i c x y hop
    rw [hop]
    split at h
    · rename_i t hcv
      have hcv := (geto_ok hsl hcv : LfR _ _ _ _).1
      simp only [hcv, asBool, Sem.run_bind, Sem.run_pure, Result.andThen_ok]
      cases t
      · exact ⟨_, rfl, geto_ok hsl h⟩
      · exact ⟨_, rfl, geto_ok hsl h⟩
    · cases h
  · rename_i t x hop
    rw [hop]
    split at h
    · cases h
    rename_i ti hti
    replace hti := hT _ _ hti
    have fin : ∀ {d : Option DV} {av : AV}, someD d = some av → ∃ e, d = some e ∧ av = .d e := by
      intro d av hd
      cases d with
      | none => cases hd
      | some e => cases hd; exact ⟨e, rfl, rfl⟩
    split at h
    · rename_i id off hx
      split at h
      · rename_i T cs hob
        obtain ⟨d, hd, rfl⟩ := fin h
        obtain ⟨g, hg, hxe⟩ := geto_ok hsl hx
        obtain ⟨ob, h1, h2⟩ := hc.obj id _ hg
        rw [hhp _ _ hob] at h1
        cases h1
        obtain ⟨g', vs, he, _, hb, hl⟩ := h2
        cases he
        obtain ⟨v, hr, hv⟩ := loadBlk_ok hti hd hl hb
        exact ⟨v, run_value (by rw [hxe]; exact hr), hv⟩
      · cases h
    · rename_i id sz i j hx
      split at h
      · rename_i T sz' n el hob
        split at h
        · rename_i hsz
          obtain ⟨rfl, hj⟩ := hsz
          obtain ⟨d, hd, rfl⟩ := fin h
          obtain ⟨g, n', cap, hg, hi, hxe⟩ := geto_ok hsl hx
          obtain ⟨ob, h1, h2⟩ := hc.obj id _ hg
          rw [hhp _ _ hob] at h1
          cases h1
          obtain ⟨xs, hown, hel⟩ := h2
          obtain ⟨hxl, hown2⟩ := hown
          rcases hown2 with ⟨he, _⟩ | ⟨g2, cap2, cur, he, hge, hblk, hn, hm, hs, ht⟩
          · cases he
          · cases he
            obtain ⟨v, hr, hv⟩ := loadC_ok (b := g) (off := i * sz + j) hti hd (B := Bd ρ B0) (w := w) (fun q hq => by
              obtain ⟨x, hx1, hx2⟩ := hel i (j + q) hi (by omega)
              refine ⟨x, ?_, hx2⟩
              rw [cell_of_row w g _ cur _ (0, 0) hblk, ← Array.getElem?_toList]
              rw [← ht, List.getElem?_take] at hx1
              split at hx1
              · rw [show i * sz + j + q = i * sz + (j + q) by omega]; exact hx1
              · cases hx1)
            exact ⟨v, run_value (by rw [hxe]; exact hr), hv⟩
        · cases h
      · cases h
    · rename_i m cs hx
      obtain ⟨d, hd, rfl⟩ := fin h
      obtain ⟨b, off, hxe, hb, hlt, hcs⟩ := (geto_ok hsl hx : LfR _ _ _ _)
      obtain ⟨v, hr, hv⟩ := loadC_ok hti hd hcs
      exact ⟨v, run_value (by rw [hxe]; exact hr), hv⟩
    · cases h
  · rename_i op t x y yt hop
    rw [hop]
    split at h
    · rename_i ti va vb hti hx hy
      replace hti := hT _ _ hti
      split at h
      · rename_i r hr
        cases h
        have h1 := (geto_ok hsl hx : LfR _ _ _ _).1
        have h2 := (geto_ok hsl hy : LfR _ _ _ _).1
        refine ⟨r, run_value (by rw [h1, h2]; exact binV_ok hti hr), rfl, ?_⟩
        unfold binV at hr
        split at hr
        · split at hr
          · split at hr <;> cases hr <;> rfl
          split at hr
          · split at hr <;> cases hr <;> rfl
          split at hr
          · split at hr <;> first | (cases hr; done) | (cases hr; rfl) | (split at hr <;> cases hr <;> rfl)
          · cases hr
        · split at hr <;> cases hr <;> rfl
        · split at hr <;> first | (cases hr; rfl) | (split at hr <;> cases hr <;> rfl) | cases hr
        · cases hr
      · cases h
    · cases h
  · rename_i op t x hop
    rw [hop]
    split at h
    · rename_i b hx
      cases h
      have h1 := (geto_ok hsl hx : LfR _ _ _ _).1
      exact ⟨_, run_value (by rw [h1]; rfl), rfl, rfl⟩
    · rename_i k n hx
      cases h
      have h1 := (geto_ok hsl hx : LfR _ _ _ _).1
      exact ⟨_, run_value (by rw [h1]; rfl), rfl, rfl⟩
    · cases h
  · rename_i src dst x hop
    rw [hop]
    split at h
    · rename_i ts td k n hts htd hx
      replace hts := hT _ _ hts
      replace htd := hT _ _ htd
      split at h
      · rename_i k' hik
        cases h
        have h1 := (geto_ok hsl hx : LfR _ _ _ _).1
        obtain ⟨_, _, d1, _, _, hd1, _⟩ := ti_parts hts
        obtain ⟨_, _, d2, _, _, hd2, _, _, _, _, _, _, hk, _⟩ := ti_parts htd
        have := hk k' hik
        subst this
        refine ⟨.int k' (k'.wrap n), run_value ?_, rfl, rfl⟩
        rw [h1]
        simp only [convert, Sem.run_bind, run_underlying hd1, run_underlying hd2, Result.andThen_ok]
        cases d1 <;> rfl
      · cases h
    · cases h
  · rename_i t x f hop
    rw [hop]
    split at h
    · cases h
    rename_i ti hti
    replace hti := hT _ _ hti
    split at h
    · cases h
    rename_i off u hf
    split at h
    · cases h
    rename_i tu htu
    replace htu := hT _ _ htu
    split at h
    · cases h
    rename_i hn
    split at h
    · rename_i id o' hx
      cases h
      obtain ⟨g, hg, hxe⟩ := geto_ok hsl hx
      exact ⟨_, run_value (by rw [hxe]; exact ti_field hti hf htu hn), g, hg, rfl⟩
    · rename_i id sz i j hx
      cases h
      obtain ⟨g, n, cap, hg, hi, hxe⟩ := geto_ok hsl hx
      exact ⟨_, run_value (by rw [hxe]; exact ti_field hti hf htu hn), g, n, cap, hg, hi, by rw [Nat.add_assoc]⟩
    · rename_i m cs hx
      split at h
      · rename_i hle
        cases h
        obtain ⟨b, o', hxe, hb, hlt, hcs⟩ := (geto_ok hsl hx : LfR _ _ _ _)
        refine ⟨_, run_value (by rw [hxe]; exact ti_field hti hf htu hn), b, o' + off, rfl, hb, hlt, fun j hj => ?_⟩
        obtain ⟨x, h1, h2⟩ := hcs (off + j) (by omega)
        exact ⟨x, by rw [Nat.add_assoc]; exact h1, h2⟩
      · cases h
    · cases h
  · rename_i t x f hop
    rw [hop]
    split at h
    · cases h
    rename_i ti hti
    replace hti := hT _ _ hti
    split at h
    · cases h
    rename_i off u hf
    split at h
    · rename_i tu ls htu hx
      replace htu := hT _ _ htu
      cases hd : partV tu ls off with
      | none => rw [hd] at h; cases h
      | some d =>
        rw [hd] at h
        cases h
        obtain ⟨cs, hxe, hl⟩ := geto_ok hsl hx
        obtain ⟨v, hr, hv⟩ := partV_ok (P := P) htu hd hl
        obtain ⟨i, z, dd, h1, h2, h3, h4, h5, h6, h7, h8, _⟩ := ti_parts hti
        obtain ⟨fs, fd, rfl, h9, rfl, rfl⟩ := h8 f off u hf
        refine ⟨v, run_value ?_, hv⟩
        rw [hxe]
        simp only [Instr.field, Sem.run_bind, run_underlying h3, Result.andThen_ok, h9, asAgg, Sem.run_pure]
        exact hr
    · cases h
  · rename_i x i hop
    rw [hop]
    split at h
    · rename_i xs hx
      cases hd : xs[i]? with
      | none => rw [hd] at h; cases h
      | some d =>
        rw [hd] at h
        cases h
        obtain ⟨cs, hxe, hl⟩ := geto_ok hsl hx
        obtain ⟨c, hc', hr⟩ := hl.get hd
        refine ⟨c, run_value ?_, hr⟩
        rw [hxe]
        simp [Instr.extract, hc']
    · cases h
  · rename_i t x ix hop
    rw [hop]
    split at h
    · cases h
    rename_i ti hti
    replace hti := hT _ _ hti
    split at h
    · cases h
    rename_i e he
    split at h
    · rename_i te ki z hte hix
      replace hte := hT _ _ hte
      have hixe := ints2_ok hsl hix
      obtain ⟨i, zz, dd, h1, h2, h3, h4, h5, h6, h7, h8, h9, _⟩ := ti_parts hti
      have := h9 e he
      subst this
      obtain ⟨i', zz', dd', k1, k2, k3, k4, _⟩ := ti_parts hte
      split at h
      · rename_i sz n el hx
        split at h
        · rename_i hcond
          obtain ⟨rfl, hz0, hzn⟩ := hcond
          cases h
          obtain ⟨ad, cap, hxe, hn, hnil, hel⟩ := (geto_ok hsl hx : LfR _ _ _ _)
          obtain ⟨b, off, rfl, hb, hlt, hj⟩ := hel z.toNat (by omega)
          refine ⟨.pointer (some ⟨b, off + z.toNat * te.n, none⟩), run_value ?_, b, _, rfl, hb, hlt, hj⟩
          rw [hxe, hixe]
          simp [Instr.indexAt, asIntOf, run_underlying h3, hz0, hzn, sizeOf, typeInfo, k1, k4, add_lit]
        · cases h
      · rename_i id hx
        split at h
        · rename_i e' sz n el hob
          split at h
          · rename_i hcond
            obtain ⟨rfl, hz0, hzn⟩ := hcond
            cases h
            obtain ⟨hg, ad, n', cap, hxe⟩ := geto_ok hsl hx
            obtain ⟨ob, o1, o2⟩ := hc.obj id _ hg
            rw [hhp _ _ hob] at o1
            cases o1
            obtain ⟨xs, ⟨hxl, hown2⟩, hel⟩ := o2
            rcases hown2 with ⟨hee, hn0⟩ | ⟨g2, cap2, cur, hee, hge, hblk, hn, hm, hs, ht⟩
            · omega
            · refine ⟨.pointer (some ⟨g2, z.toNat * te.n, none⟩), run_value ?_, g2, n, cap2, by rw [hg, hee], by omega, by rw [Nat.add_zero]⟩
              rw [hee, hixe]
              simp [Instr.indexAt, asIntOf, run_underlying h3, hz0, hzn, sizeOf, typeInfo, k1, k4, add_lit]
          · cases h
        · cases h
      · cases h
    · cases h
  · rename_i t x lo hi hop
    rw [hop]
    split at h
    · cases h
    rename_i ti hti
    replace hti := hT _ _ hti
    split at h
    · cases h
    rename_i e he
    split at h
    · rename_i te sz n el hte hx
      replace hte := hT _ _ hte
      split at h
      · rename_i lo' hi' hlo hhi
        split at h
        · rename_i hcond
          obtain ⟨rfl, hlh, hhn⟩ := hcond
          cases h
          obtain ⟨i, z, dd, h1, h2, h3, h4, h5, h6, h7, h8, h9, _⟩ := ti_parts hti
          have := h9 e he
          subst this
          obtain ⟨i', zz', dd', k1, k2, k3, k4, _⟩ := ti_parts hte
          obtain ⟨ad, cap, hxe, hn, hnil, hel⟩ := (geto_ok hsl hx : LfR _ _ _ _)
          have hb : (Instr.sliceBounds true n cap (lo.map a.eval) (hi.map a.eval) none).run P w = .ok (lo', hi', cap) w := by
            have h1 : (match (hi.map a.eval) with | some v => Instr.sliceBound v cap .sliceAcap | none => pure n : Sem Nat).run P w = .ok hi' w := by
              cases hi with
              | none => simp [bndV] at hhi; simp [hhi]
              | some y => exact bndV_ok hsl hhi (by omega)
            have h2 : (match (lo.map a.eval) with | some v => Instr.sliceBound v hi' .sliceB | none => pure 0 : Sem Nat).run P w = .ok lo' w := by
              cases lo with
              | none => simp [bndV] at hlo; simp [hlo]
              | some y => exact bndV_ok hsl hlo hlh
            cases hi with
            | none =>
              cases lo with
              | none => simp [Instr.sliceBounds, bndV] at *; omega
              | some y => simp [Instr.sliceBounds] at *; simp [h1, h2]
            | some y =>
              cases lo with
              | none => simp [Instr.sliceBounds] at *; simp [h1, h2]
              | some y' => simp [Instr.sliceBounds] at *; simp [h1, h2]
          refine ⟨.slice (if cap = lo' then ad else ad.map (·.add (lo' * te.n))) (hi' - lo') (cap - lo'), run_value ?_, if cap = lo' then ad else ad.map (·.add (lo' * te.n)), cap - lo', rfl, by omega, fun hnone => ?_, fun q hq => ?_⟩
          · rw [hxe]
            simp only [Instr.sliceAt, Instr.slice, Sem.run_bind, run_underlying h3, Result.andThen_ok, sizeOf, typeInfo, run_program, k1, Sem.run_pure, Option.map_none]
            rw [hb]
            simp [k4]
          · cases ad with
            | none => have := hnil rfl; omega
            | some q =>
              by_cases hc' : cap = lo'
              · omega
              · rw [if_neg hc'] at hnone; cases hnone
          · have hc' : ¬ cap = lo' := by omega
            rw [if_neg hc']
            obtain ⟨b, off, rfl, hb1, hb2, hb3⟩ := hel (lo' + q) (by omega)
            refine ⟨b, off + lo' * te.n, by simp [add_lit], hb1, hb2, fun j hj => ?_⟩
            obtain ⟨v, hv1, hv2⟩ := hb3 j hj
            exact ⟨v, by rw [Nat.add_assoc off, ← Nat.add_mul]; exact hv1, hv2⟩
        · cases h
      · cases h
    · cases h
  · rename_i t parts hop
    rw [hop]
    split at h
    · cases h
    rename_i ti hti
    replace hti := hT _ _ hti
    split at h
    · cases h
    rename_i f fs hfs
    split at h
    · rename_i pl ps hpl hps
      split at h
      · rename_i r hr
        cases h
        obtain ⟨i, z, dd, h1, h2, h3, h4, h5, h6, h7, h8, _⟩ := ti_parts hti
        obtain ⟨F, fd, rfl, h9, h10, h11⟩ := h8 0 f.1 f.2 (by rw [hfs]; rfl)
        have hF : F.toList.map (fun q : Field => (q.offset, q.type)) = f :: fs := by
          rw [← hfs]
          unfold tiOf at hti
          simp only [h1, h2, h3] at hti
          split at hti
          · cases hti
          · cases hti; rfl
        have hone : ∀ c ∈ ti.zero, c.oneCell' = true := by
          obtain ⟨_, _, _, _, _, _, _, _, _, _, _, _, _, _, hall⟩ := ti_parts hti
          exact hall
        obtain ⟨g1, g2⟩ := getps_ok hsl parts.toList ps hps
        obtain ⟨rs, hfill, hrs⟩ := fillL_ok (fun i => pl[i]?) ps _ _ r ti.zero (LsR.vs hone) hr g1 g2
        have hplr := placesOf_ok hT (w := w) F.toList pl (by rw [hF]; exact hpl)
        refine ⟨.agg rs.toArray, run_value ?_, rs, rfl, hrs⟩
        have hz : z.cells = ti.zero.toArray := by rw [← h5]
        have hm : (parts.map fun x : Nat × Operand => match x with | (i, x) => (i, a.eval x)).toList = parts.toList.map fun q : Nat × Operand => (q.1, a.eval q.2) := by
          rw [Array.toList_map]
        unfold Instr.build
        simp only [Sem.run_bind, zeroValue, typeInfo, run_program, Result.andThen_ok, h1, h2, Sem.run_pure, run_underlying h3, hz, Array.mapM_eq_mapM_toList, Sem.run_map]
        rw [hplr]
        simp only [Result.andThen_ok, hm]
        have : (fun x : Nat => pl.toArray[x]?) = fun i : Nat => pl[i]? := by funext i; simp
        rw [this, hfill]
        rfl
      · cases h
    · cases h
  · rename_i c hop
    rw [hop]
    split at h
    · rename_i hcal
      split at h
      · rename_i x t hargs hty
        split at h
        · cases h
        rename_i ti hti
        replace hti := hT _ _ hti
        have hargs' : c.args = #[x] := by rw [← Array.toList_inj] ; simpa using hargs
        obtain ⟨i, z, d, h1, h2, h3, h4, h5, h6, h7, h8, h9, _⟩ := ti_parts hti
        have go : ∀ (ad : Option Addr) (n cap : Nat) e, ti.elem = some e → a.eval x = .slice ad n cap → (do let d ← resolve a.eval c o.type; invoke d.target d.args).run P w = .ok (.value (.int .i64 n)) w := by
          intro ad n cap e he hxe
          have := h9 e he
          subst this
          simp [resolve, hcal, hargs', invoke, builtin, Builtin.len_, hty, hxe, run_underlying h3, goInt]
        split at h
        · rename_i e sz n el he hx
          cases h
          obtain ⟨ad, cap, hxe, _⟩ := (geto_ok hsl hx : LfR _ _ _ _)
          exact ⟨_, go ad n cap e he hxe, rfl, rfl⟩
        · rename_i e n S he hx
          cases h
          obtain ⟨_, ad, cap, hxe⟩ := (geto_ok hsl hx : LfR _ _ _ _)
          exact ⟨_, go ad n cap e he hxe, rfl, rfl⟩
        · rename_i e ad n cap he hx
          cases h
          have hxe := (geto_ok hsl hx : LfR _ _ _ _).1
          exact ⟨_, go ad n cap e he hxe, rfl, rfl⟩
        · rename_i e id he hx
          split at h
          · rename_i e' sz n el hob
            cases h
            obtain ⟨hg, ad, n', cap, hxe⟩ := geto_ok hsl hx
            obtain ⟨ob, o1, o2⟩ := hc.obj id _ hg
            rw [hhp _ _ hob] at o1
            cases o1
            obtain ⟨xs, ⟨hxl, hown2⟩, hel⟩ := o2
            have hn : n' = n := by
              rcases hown2 with ⟨hee, hn0⟩ | ⟨g2, cap2, cur, hee, hge, hblk, hn, hm, hs, ht⟩
              · rw [hxe] at hee; cases hee; exact hn0.symm
              · rw [hxe] at hee; cases hee; rfl
            subst hn
            exact ⟨_, go ad n' cap e he hxe, rfl, rfl⟩
          · cases h
        · cases h
      · cases h
    · rename_i hcal
      split at h
      · rename_i k x r hg
        split at h
        · rename_i z hz
          cases h
          have hls := getls_ok hsl _ _ hg
          cases hca : c.args.toList with
          | nil => rw [hca] at hls; exact hls.elim
          | cons y ys =>
            rw [hca] at hls
            obtain ⟨⟨hy, _⟩, hys⟩ := hls
            have := minV_max (P := P) (w := w) r (ys.map a.eval) x z hys hz
            refine ⟨_, ?_, rfl, rfl⟩
            have hm : (c.args.map a.eval).toList = .int k x :: ys.map a.eval := by rw [Array.toList_map, hca, List.map_cons, hy]
            simp [resolve, hcal, invoke, builtin, Builtin.max_, hca, hy, this]
        · cases h
      · cases h
    · rename_i hcal
      split at h
      · rename_i k x r hg
        split at h
        · rename_i z hz
          cases h
          have hls := getls_ok hsl _ _ hg
          cases hca : c.args.toList with
          | nil => rw [hca] at hls; exact hls.elim
          | cons y ys =>
            rw [hca] at hls
            obtain ⟨⟨hy, _⟩, hys⟩ := hls
            have := minV_min (P := P) (w := w) r (ys.map a.eval) x z hys hz
            refine ⟨_, ?_, rfl, rfl⟩
            simp [resolve, hcal, invoke, builtin, Builtin.min_, hca, hy, this]
        · cases h
      · cases h
    · cases h
  · rename_i f fi caps hop
    rw [hop]
    split at h
    · rename_i ls hfi hg
      cases h
      have hls := getls_ok hsl _ _ hg
      have hfi' : fi = #[] := by rw [← Array.toList_inj]; simpa using hfi
      refine ⟨_, run_value (by simp only [Instr.makeFunc]; rfl), caps.map a.eval, ?_, ?_, fun j hj => ?_⟩
      · rw [hfi', Array.map_empty]
      · have := hls.len; simp at this; simp [this]
      · obtain ⟨l, hl⟩ : ∃ l, ls[j]? = some l := ⟨ls[j], by simp [hj]⟩
        obtain ⟨cc, hcc, hr⟩ := hls.get hl
        refine ⟨cc, by simpa using hcc, ?_⟩
        show LfR _ _ ((ls[j]?).getD _) cc
        rw [hl]; exact hr
    · cases h
  · cases h

end Go.Proofs.Ytkcagkcphobmfaa
