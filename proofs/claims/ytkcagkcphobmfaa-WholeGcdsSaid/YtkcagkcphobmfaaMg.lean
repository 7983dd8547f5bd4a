/-
  THE ABSTRACT MACHINE, 7: the rules for operations one after another. No condition; nothing of the program.
-/
import Derived.Test.YtkcagkcphobmfaaMf
set_option linter.unusedVariables false
set_option linter.unusedSimpArgs false
namespace Go.Proofs.Ytkcagkcphobmfaa
open Go.RowKit

/-- A post about states. -/
abbrev Qs := Exit → AS → Prop
def DQ (Q : Qs) (B0 : BS) (w0 : World) : Exit → Act → World → Prop := fun e a w => ∃ s, Q e s ∧ Den s B0 w0 a w

/-- The operations l, of the region ops, from the state s on. -/
def AL (P : Program) (ops : Array Oper) (Q : Qs) (l : List Oper) (s : AS) : Prop := ∀ B0 w0 a w, Den s B0 w0 a w → wpList P ops (DQ Q B0 w0) l a w

def AS.put (s : AS) (d : Option Nat) (av : AV) : AS := match d with
  | some d => ⟨s.n, (d, av) :: s.sl, s.hp⟩
  | none => s

/-- The slot is there (or there is none). -/
def dok (d : Option Nat) (n : Nat) : Bool := match d with
  | some d => Nat.ble (d + 1) n
  | none => true

theorem slots_put {ρ : Rho} {B : BS} {w : World} {sl : List (Nat × AV)} {a : Act} {n : Nat} (h : Slots ρ B w sl a) (hn : a.tmps.size = n) {d : Nat} (hd : d < n) {av : AV} {v : Value} (hv : AR ρ B w av v) : Slots ρ B w ((d, av) :: sl) (a.put (some d) v) := by
  intro t av' ht
  rw [lk_cons] at ht
  split at ht
  · rename_i e
    cases ht
    subst e
    exact ⟨v, by simp [Act.put, hn, hd], hv⟩
  · rename_i e
    obtain ⟨u, h1, h2⟩ := h t av' ht
    exact ⟨u, by simp [Act.put, Array.getElem?_setIfInBounds_ne e, h1], h2⟩

theorem den_put {s : AS} {ρ : Rho} {B0 : BS} {w0 w : World} {a : Act} (hc : Core ρ B0 w0 w s.hp) (hn : a.tmps.size = s.n) (hdf : a.defers = []) (hs : Slots ρ (Bd ρ B0) w s.sl a) {d : Option Nat} (hd : dok d s.n = true) {av : AV} {v : Value} (hv : AR ρ (Bd ρ B0) w av v) :
    Den (s.put d av) B0 w0 (a.put d v) w := by
  cases d with
  | none => exact ⟨ρ, hc, hn, hdf, hs⟩
  | some d => exact ⟨ρ, hc, (by show (a.tmps.setIfInBounds d v).size = s.n; simpa using hn), hdf, slots_put hs hn (Nat.le_of_ble_eq_true hd) hv⟩

/-- Is the operation wanted? -/
def gst (ops : Array Oper) (s : AS) (o : Oper) : Option Bool :=
  match o.guard with
  | none => some true
  | some (j, want) => match ops.toList[j]? with
    | some oj => match oj.dst with
      | some d => match lk s.sl d with
        | some (.d (.one (.v (.bool b)))) => some (b == want)
        | _ => none
      | none => none
    | none => none

theorem gst_ok {ops : Array Oper} {s : AS} {o : Oper} {b : Bool} {ρ : Rho} {B : BS} {w : World} {a : Act} (h : gst ops s o = some b) (hs : Slots ρ B w s.sl a) : Region.wanted o (yielded ops a.tmps) = b := by
  unfold gst at h
  unfold Region.wanted
  split at h
  · rename_i hg; rw [hg]; simpa using h
  · rename_i j want hg
    rw [hg]
    split at h
    · rename_i oj hj
      split at h
      · rename_i d hd
        split at h
        · rename_i b' hb
          cases h
          obtain ⟨v, hv, hr⟩ := hs d _ hb
          obtain ⟨rfl, _⟩ := hr
          have hj' : ops[j]? = some oj := by rw [← Array.getElem?_toList]; exact hj
          simp only [yielded, hj', Option.bind_some, hd, hv]
          cases b' <;> cases want <;> rfl
        · cases h
      · cases h
    · cases h

section
variable {P : Program} {ops : Array Oper} {Q : Qs} {o : Oper} {l : List Oper} {s : AS}

theorem wpl_value {Qw : Exit → Act → World → Prop} {a : Act} {w w' : World} {v : Value} (hw : Region.wanted o (yielded ops a.tmps) = true) (hr : (execOp a.eval o).run P w = .ok (.value v) w') (k : wpList P ops Qw l (a.put o.dst v) w') : wpList P ops Qw (o :: l) a w := by
  unfold wpList
  rw [if_pos hw]
  left
  unfold Oper.wp
  rw [hr]
  exact k
theorem wpl_skip {Qw : Exit → Act → World → Prop} {a : Act} {w w' : World} (hw : Region.wanted o (yielded ops a.tmps) = true) (hr : (execOp a.eval o).run P w = .ok .skip w') (k : wpList P ops Qw l (a.put o.dst undef) w') : wpList P ops Qw (o :: l) a w := by
  unfold wpList
  rw [if_pos hw]
  left
  unfold Oper.wp
  rw [hr]
  exact k
theorem wpl_call {Qw : Exit → Act → World → Prop} {a : Act} {w : World} {f : FuncId} {vs : Array Value} (hw : Region.wanted o (yielded ops a.tmps) = true) (hr : (execOp a.eval o).run P w = .ok (.enter f vs) w)
    (k : Calls P f vs w fun e w' => ∃ v, e = .returned v ∧ wpList P ops Qw l (a.put o.dst v) w') : wpList P ops Qw (o :: l) a w := by
  unfold wpList
  rw [if_pos hw]
  left
  unfold Oper.wp
  rw [hr]
  refine k.mono ?_
  rintro e w' ⟨v, rfl, h⟩
  exact h

theorem mNil (h : Q .normal s) : AL P ops Q [] s := fun B0 w0 a w hd => ⟨s, h, hd⟩

/-- The guard says no. -/
theorem mG (hg : gst ops s o = some false) (hd : dok o.dst s.n = true) (k : AL P ops Q l (s.put o.dst .dead)) : AL P ops Q (o :: l) s := by
  rintro B0 w0 a w ⟨ρ, hc, hn, hdf, hs⟩
  unfold wpList
  rw [if_neg (by rw [gst_ok hg hs]; exact Bool.noConfusion)]
  exact k B0 w0 _ w (den_put hc hn hdf hs hd trivial)

/-- A value. -/
theorem mV {T : TypeId → Option TI} (hT : TOk P T) (av : AV) (h : evV T s o.op = some av) (k : AL P ops Q l (s.put o.dst av)) (hg : gst ops s o = some true := by rfl) (hd : dok o.dst s.n = true := by rfl) : AL P ops Q (o :: l) s := by
  rintro B0 w0 a w ⟨ρ, hc, hn, hdf, hs⟩
  obtain ⟨v, hr, hv⟩ := evV_ok hT hs hc (fun _ _ h => h) h
  exact wpl_value (gst_ok hg hs) hr (k B0 w0 _ w (den_put hc hn hdf hs hd hv))

/-- A row written out. -/
theorem mB {T : TypeId → Option TI} (hT : TOk P T) (av : AV) (h : evB T s o.op = some av) (k : AL P ops Q l (s.put o.dst av)) (hg : gst ops s o = some true := by rfl) (hd : dok o.dst s.n = true := by rfl) : AL P ops Q (o :: l) s := by
  rintro B0 w0 a w ⟨ρ, hc, hn, hdf, hs⟩
  obtain ⟨v, w', hr, hb, hv⟩ := evB_ok hT hs hc h
  have hs' : Slots ρ (Bd ρ B0) w' s.sl a := fun t av ht => let ⟨u, h1, h2⟩ := hs t av ht; ⟨u, h1, h2.below hb⟩
  exact wpl_value (gst_ok hg hs) hr (k B0 w0 _ w' (den_put (hc.below hb) hn hdf hs' hd hv))

def AS.mk' (s : AS) (d : Nat) (ob : AO) : AS := ⟨s.n, (d, ob.av d) :: s.sl, (d, ob) :: s.hp⟩

/-- An object is made: its name is the slot's. -/
theorem mN {T : TypeId → Option TI} (hT : TOk P T) (ob : AO) (h : evN T s o.op = some ob) {d : Nat} (hdst : o.dst = some d) (hfr : lk s.hp d = none) (k : AL P ops Q l (s.mk' d ob)) (hg : gst ops s o = some true := by rfl) (hd : dok (some d) s.n = true := by rfl) : AL P ops Q (o :: l) s := by
  rintro B0 w0 a w ⟨ρ, hc, hn, hdf, hs⟩
  obtain ⟨v, w', hr, hb, hv, ho⟩ := evN_ok hT hs hc h
  have hρ : ρ d = none := by
    cases hρ : ρ d with
    | none => rfl
    | some u => obtain ⟨ob', h1, _⟩ := hc.obj d u hρ; rw [hfr] at h1; cases h1
  have ho' := ho (Bd (up ρ d v) B0) (up_new hρ hv)
  have hc' : Core (up ρ d v) B0 w0 w' ((d, ob) :: s.hp) := hc.new hρ hb hv (fun k ob' hk hne => by rw [lk_cons, if_neg (fun e => hne e.symm)]; exact hk) (by rw [lk_cons, if_pos rfl]) ho'
  have hs' : Slots (up ρ d v) (Bd (up ρ d v) B0) w' s.sl a := fun t av ht => let ⟨u, h1, h2⟩ := hs t av ht; ⟨u, h1, h2.new hρ hb hv⟩
  refine wpl_value (gst_ok hg hs) hr (k B0 w0 _ w' ?_)
  rw [hdst]
  exact ⟨_, hc', (by show (a.tmps.setIfInBounds d v).size = s.n; simpa using hn), hdf, slots_put hs' hn (Nat.le_of_ble_eq_true hd) (AO.av_ok ho' (by simp [up]))⟩

/-- A store into an object. -/
theorem mS {T : TypeId → Option TI} (hT : TOk P T) (id : Nat) (ob : AO) (h : evS T s o.op = some (id, ob)) (k : AL P ops Q l (AS.put ⟨s.n, s.sl, (id, ob) :: s.hp⟩ o.dst .dead)) (hg : gst ops s o = some true := by rfl) (hd : dok o.dst s.n = true := by rfl) : AL P ops Q (o :: l) s := by
  rintro B0 w0 a w ⟨ρ, hc, hn, hdf, hs⟩
  obtain ⟨w', hr, hc', hk⟩ := evS_ok hT hs hc h
  have hs' : Slots ρ (Bd ρ B0) w' s.sl a := fun t av ht => let ⟨u, h1, h2⟩ := hs t av ht; ⟨u, h1, AR.mv hk (fun _ _ hB => hB) (fun _ _ => rfl) h2⟩
  exact wpl_skip (gst_ok hg hs) hr (k B0 w0 _ w' (den_put (s := ⟨s.n, s.sl, (id, ob) :: s.hp⟩) hc' hn hdf hs' hd trivial))

/-- WHAT A FUNCTION ANSWERS to data: in whatever memory, keeping out of B. -/
structure ACall (P : Program) (f : FuncId) (args : List DV) (res : AV) : Prop where
  en : ∀ vs w, (callFunc f vs).run P w = .ok (.enter f vs) w
  go : ∀ (B : BS) (w : World) (vs : List Value), (∀ b, B b → b < w.heap.size) → DsR B w args vs → Calls P f vs.toArray w fun e w' => ∃ v, e = .returned v ∧ Below w.heap.size w w' ∧ AR (fun _ => none) B w' res v

theorem AR.lift {ρ : Rho} {B : BS} {w : World} : ∀ {av : AV} {v : Value}, AR (fun _ => none) B w av v → AR ρ B w av v
  | .d x, _, h => h
  | .tup xs, _, h => h
  | .ptr id off, _, ⟨g, h, _⟩ => by cases h
  | .own id, _, ⟨h, _⟩ => by cases h
  | .eptr id sz i j, _, ⟨g, n, cap, h, _⟩ => by cases h
  | .dead, _, _ => trivial

def getds (s : AS) : List Operand → Option (List DV)
  | [] => some []
  | x :: r => match geto s x, getds s r with
    | some (.d d), some ds => some (d :: ds)
    | _, _ => none

theorem getds_ok {ρ : Rho} {B : BS} {w : World} {a : Act} (hs : Slots ρ B w s.sl a) : ∀ (l : List Operand) (ds : List DV), getds s l = some ds → DsR B w ds (l.map a.eval)
  | [], ds, h => by
    simp only [getds, Option.some.injEq] at h
    subst h; trivial
  | x :: r, ds, h => by
    simp only [getds] at h
    split at h
    · rename_i d ps' hx hr
      cases h
      exact ⟨geto_ok hs hx, getds_ok hs r ps' hr⟩
    · cases h

theorem DsR.app {B : BS} {w : World} : ∀ {ls ms : List DV} {cs ds : List Value}, DsR B w ls cs → DsR B w ms ds → DsR B w (ls ++ ms) (cs ++ ds)
  | [], _, [], _, _, k => k
  | _ :: _, _, _ :: _, _, h, k => ⟨h.1, DsR.app h.2 k⟩

def capsD (caps : Nat → Lf) : Nat → Nat → List DV
  | _, 0 => []
  | o, n + 1 => .one (caps o) :: capsD caps (o + 1) n

theorem capsD_ok {B : BS} {w : World} {caps : Nat → Lf} {vs : Array Value} : ∀ (n o : Nat), vs.size = o + n → (∀ j, o ≤ j → j < o + n → ∃ x, vs[j]? = some x ∧ LfR B w (caps j) x) → DsR B w (capsD caps o n) (vs.toList.drop o)
  | 0, o, hs, _ => by
    rw [List.drop_eq_nil_of_le (by simp; omega)]; trivial
  | n + 1, o, hs, h => by
    obtain ⟨x, hx, hr⟩ := h o (Nat.le_refl _) (by omega)
    have hlt : o < vs.toList.length := by simp; omega
    rw [List.drop_eq_getElem_cons hlt]
    refine ⟨?_, capsD_ok n (o + 1) (by omega) (fun j h1 h2 => h j (by omega) (by omega))⟩
    have : vs.toList[o] = x := by
      have := (Array.getElem?_eq_some_iff.1 hx).2
      simpa using this
    rw [this]; exact hr

/-- The function that is called, with what it has caught. -/
def fnOf (s : AS) : Callee → Option (FuncId × List DV)
  | .value x => match geto s x with
    | some (.d (.one (.fn f n caps))) => some (f, capsD caps 0 n)
    | _ => none
  | _ => none

def callOf : Op → Option Call
  | .call c => some c
  | _ => none

theorem run_call {c : Call} {f : FuncId} {cap ds : List DV} {ρ : Rho} {B : BS} {w : World} {a : Act} (hs : Slots ρ B w s.sl a) (hc : callOf o.op = some c) (hf : fnOf s c.callee = some (f, cap)) (ha : getds s c.args.toList = some ds)
    (hen : ∀ vs w, (callFunc f vs).run P w = .ok (.enter f vs) w) : ∃ vs : List Value, DsR B w (ds ++ cap) vs ∧ (execOp a.eval o).run P w = .ok (.enter f vs.toArray) w := by
  have hop : o.op = .call c := by
    unfold callOf at hc
    split at hc
    · rename_i h; cases hc; exact h
    · cases hc
  unfold fnOf at hf
  split at hf
  · rename_i x hcal
    split at hf
    · rename_i f' n caps hx
      cases hf
      obtain ⟨vs, hxe, hsz, hj⟩ := (geto_ok hs hx : LfR _ _ _ _)
      have hcd := capsD_ok (B := B) (w := w) (caps := caps) (vs := vs) n 0 (by omega) (fun j _ h2 => hj j (by omega))
      refine ⟨c.args.toList.map a.eval ++ vs.toList, (getds_ok hs _ _ ha).app (by simpa using hcd), ?_⟩
      unfold execOp
      rw [hop]
      simp only [resolve, hcal, Deferred.ofValue, hxe, Sem.run_bind, Sem.run_pure, Result.andThen_ok, invoke, hen]
      congr 2
      rw [← Array.toList_inj]
      simp
    · cases hf
  · cases hf

/-- A CALL, by what its function answers. -/
theorem mC {c : Call} {f : FuncId} {cap ds : List DV} {res : AV} (h : ACall P f (ds ++ cap) res) (hc : callOf o.op = some c) (hf : fnOf s c.callee = some (f, cap)) (ha : getds s c.args.toList = some ds) (k : AL P ops Q l (s.put o.dst res))
    (hg : gst ops s o = some true := by rfl) (hd : dok o.dst s.n = true := by rfl) : AL P ops Q (o :: l) s := by
  rintro B0 w0 a w ⟨ρ, hcr, hn, hdf, hs⟩
  obtain ⟨vs, hvs, hr⟩ := run_call hs hc hf ha h.en
  refine wpl_call (gst_ok hg hs) hr ((h.go (Bd ρ B0) w vs hcr.bdlt hvs).mono ?_)
  rintro e w' ⟨v, rfl, hb, hv⟩
  refine ⟨v, rfl, k B0 w0 _ w' ?_⟩
  have hs' : Slots ρ (Bd ρ B0) w' s.sl a := fun t av ht => let ⟨u, h1, h2⟩ := hs t av ht; ⟨u, h1, h2.below hb⟩
  exact den_put (hcr.below hb) hn hdf hs' hd hv.lift
end

end Go.Proofs.Ytkcagkcphobmfaa
