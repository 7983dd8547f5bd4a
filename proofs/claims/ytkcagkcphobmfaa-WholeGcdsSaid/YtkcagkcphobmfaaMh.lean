/-
  THE ABSTRACT MACHINE, 8: the rules for code; what is known less of a state; the answer of a function. No condition; nothing of the program.
-/
import Derived.Test.YtkcagkcphobmfaaMg
set_option linter.unusedVariables false
set_option linter.unusedSimpArgs false
namespace Go.Proofs.Ytkcagkcphobmfaa
open Go.RowKit

/-- The code c from the state s on. -/
def AW (P : Program) (c : Code) (Q : Qs) (s : AS) : Prop := ∀ B0 w0 a w, Den s B0 w0 a w → c.wp P (DQ Q B0 w0) a w

/-- s' says no more than s. -/
def Wk (s s' : AS) : Prop := ∀ B0 w0 a w, Den s B0 w0 a w → Den s' B0 w0 a w

def thn (K : AS → Prop) (Q : Qs) : Qs
  | .normal, s => K s
  | e, s => Q e s
def inB (id : Nat) (Q : Qs) : Qs
  | .exit id', s => if id' = id then Q .normal s else Q (.exit id') s
  | e, s => Q e s

section
variable {P : Program} {Q : Qs} {s : AS}

theorem AW.wk {c : Code} {s' : AS} (h : Wk s s') (k : AW P c Q s') : AW P c Q s := fun B0 w0 a w hd => k B0 w0 a w (h B0 w0 a w hd)
theorem AL.wk {ops : Array Oper} {l : List Oper} {s' : AS} (h : Wk s s') (k : AL P ops Q l s') : AL P ops Q l s := fun B0 w0 a w hd => k B0 w0 a w (h B0 w0 a w hd)

theorem cSeq {x y : Code} (h : AW P x (thn (fun s => AW P y Q s) Q) s) : AW P (.seq x y) Q s := by
  intro B0 w0 a w hd
  refine wp_seq (Code.wp_mono (fun e a w hq => ?_) (h B0 w0 a w hd))
  obtain ⟨s', h1, h2⟩ := hq
  cases e with
  | normal => exact h1 B0 w0 a w h2
  | _ => exact ⟨s', h1, h2⟩

/-- The ways through x meet again in one of the states S i. -/
theorem cCut {ι : Type} {x y : Code} (S : ι → AS) (I : ι → Prop) (h : AW P x (thn (fun s => ∃ i, I i ∧ Wk s (S i)) Q) s) (k : ∀ i, I i → AW P y Q (S i)) : AW P (.seq x y) Q s := by
  intro B0 w0 a w hd
  refine wp_seq (Code.wp_mono (fun e a w hq => ?_) (h B0 w0 a w hd))
  obtain ⟨s', h1, h2⟩ := hq
  cases e with
  | normal => obtain ⟨i, hi, hw⟩ := h1; exact k i hi B0 w0 a w (hw B0 w0 a w h2)
  | _ => exact ⟨s', h1, h2⟩

theorem cSkip (h : Q .normal s) : AW P .skip Q s := fun B0 w0 a w hd => wp_skip ⟨s, h, hd⟩
theorem cRet (h : Q .ret s) : AW P .ret Q s := fun B0 w0 a w hd => wp_ret ⟨s, h, hd⟩
theorem cExit {id : Nat} (h : Q (.exit id) s) : AW P (.exit id) Q s := fun B0 w0 a w hd => wp_exit ⟨s, h, hd⟩
theorem cBlock {id : Nat} {c : Code} (h : AW P c (inB id Q) s) : AW P (.block id c) Q s := by
  intro B0 w0 a w hd
  refine wp_block (Code.wp_mono (fun e a w hq => ?_) (h B0 w0 a w hd))
  obtain ⟨s', h1, h2⟩ := hq
  cases e with
  | exit id' =>
    unfold inB at h1
    unfold Exit.inBlock
    simp only at h1 ⊢
    split
    · rename_i e; rw [if_pos e] at h1; exact ⟨s', h1, h2⟩
    · rename_i e; rw [if_neg e] at h1; exact ⟨s', h1, h2⟩
  | _ => exact ⟨s', h1, h2⟩

theorem cCond {c : Operand} {x y : Code} {b : Bool} (hc : geto s c = some (.d (.one (.v (.bool b))))) (ht : b = true → AW P x Q s) (hf : b = false → AW P y Q s) : AW P (.cond c x y) Q s := by
  intro B0 w0 a w hd
  have hd' := hd
  obtain ⟨ρ, _, _, _, hs⟩ := hd
  have := (geto_ok hs hc : LfR _ _ _ _).1
  exact wp_cond_split this (fun e => ht e B0 w0 a w hd') (fun e => hf e B0 w0 a w hd')
theorem cIf {c : Operand} {x y : Code} (b : Bool) (hc : geto s c = some (.d (.one (.v (.bool b))))) (h : AW P (bif b then x else y) Q s) : AW P (.cond c x y) Q s :=
  cCond hc (fun e => by subst e; exact h) (fun e => by subst e; exact h)

theorem cReg {id : Nat} {l : List Oper} (h : AL P l.toArray Q l s) : AW P (.region id l.toArray false) Q s := fun B0 w0 a w hd => wp_region_lit (h B0 w0 a w hd)

/-- A LOOP: in each round the state is one of the S i, and μ falls. -/
theorem cLoop {ι : Type} {c : Code} (S : ι → AS) (I : ι → Prop) (μ : ι → Nat) (i0 : ι) (h0 : I i0) (hs : Wk s (S i0)) (round : ∀ i, I i → AW P c (thn (fun s' => ∃ i', I i' ∧ μ i' < μ i ∧ Wk s' (S i')) Q) (S i)) : AW P (.loop c) Q s := by
  intro B0 w0 a w hd b k cs
  have key : ∀ n i a w, μ i = n → I i → Den (S i) B0 w0 a w → ∃ e a' w', DQ Q B0 w0 e a' w' ∧ Arrives P (lone (b.at a (.code c :: .inLoop c :: k)) cs w) b k cs e a' w' := by
    intro n
    induction n using Nat.strongRecOn with
    | _ n ih =>
      intro i a w hn hI hden
      obtain ⟨e, a1, w1, ⟨s', hq, hden'⟩, harr⟩ := round i hI B0 w0 a w hden b (.inLoop c :: k) cs
      cases e with
      | normal =>
        obtain ⟨i', hI', hlt, hw⟩ := hq
        obtain ⟨e2, a2, w2, hq2, harr2⟩ := ih (μ i') (hn ▸ hlt) i' a1 w1 rfl hI' (hw _ _ _ _ hden')
        exact ⟨e2, a2, w2, hq2, .of_steps (Steps.trans harr (.one step_inLoop)) harr2⟩
      | exit id => exact ⟨_, a1, w1, ⟨s', hq, hden'⟩, .pass (x := .inLoop c) rfl (fun _ _ => .inl (by simp)) harr⟩
      | goto l => exact ⟨_, a1, w1, ⟨s', hq, hden'⟩, .pass (x := .inLoop c) rfl (fun _ _ => .inl (by simp)) harr⟩
      | ret => exact ⟨_, a1, w1, ⟨s', hq, hden'⟩, .pass (x := .inLoop c) rfl (fun _ _ => .inl (by simp)) harr⟩
      | panic ch => exact ⟨_, a1, w1, ⟨s', hq, hden'⟩, .pass (x := .inLoop c) rfl (fun _ _ => .inl (by simp)) harr⟩
      | outgrown => exact ⟨_, a1, w1, ⟨s', hq, hden'⟩, .pass (x := .inLoop c) rfl (fun _ _ => .inl (by simp)) harr⟩
  obtain ⟨e, a', w', hq, harr⟩ := key _ i0 a w rfl h0 (hs _ _ _ _ hd)
  exact ⟨e, a', w', hq, .of_steps (.one step_loop) harr⟩
end

/-! ### Less is known -/

/-- What a says of a value, b says too. -/
def AV.le (a b : AV) : Prop := ∀ ρ B w v, AR ρ B w a v → AR ρ B w b v
def AO.le (a b : AO) : Prop := ∀ B w0 w v, OR B w0 w a v → OR B w0 w b v
theorem AV.le.rfl {a : AV} : AV.le a a := fun _ _ _ _ h => h
theorem AO.le.rfl {a : AO} : AO.le a a := fun _ _ _ _ h => h

def Has (sl : List (Nat × AV)) (p : Nat × AV) : Prop := ∃ av, lk sl p.1 = some av ∧ AV.le av p.2
def HasO (hp : List (Nat × AO)) (p : Nat × AO) : Prop := ∃ ob, lk hp p.1 = some ob ∧ AO.le ob p.2
theorem hs {sl : List (Nat × AV)} {t : Nat} {av : AV} (h : lk sl t = some av) : Has sl (t, av) := ⟨av, h, AV.le.rfl⟩
theorem ho {hp : List (Nat × AO)} {t : Nat} {ob : AO} (h : lk hp t = some ob) : HasO hp (t, ob) := ⟨ob, h, AO.le.rfl⟩

def AllP {α : Type} (p : α → Prop) : List α → Prop
  | [] => True
  | x :: l => p x ∧ AllP p l
theorem AllP.get {α : Type} {p : α → Prop} : ∀ {l : List α}, AllP p l → ∀ x ∈ l, p x
  | [], _, x, hx => by simp at hx
  | y :: l, h, x, hx => by
    rcases List.mem_cons.1 hx with rfl | hx
    · exact h.1
    · exact AllP.get h.2 x hx

/-- The objects that a slot speaks of are there. -/
def AV.okIn (hp : List (Nat × AO)) : AV → Bool
  | .ptr id _ | .own id | .eptr id _ _ _ => (lk hp id).isSome
  | _ => true
def allOk (hp : List (Nat × AO)) : List (Nat × AV) → Bool
  | [] => true
  | (_, av) :: l => bif av.okIn hp then allOk hp l else false
theorem allOk_get {hp : List (Nat × AO)} : ∀ {l : List (Nat × AV)}, allOk hp l = true → ∀ t av, lk l t = some av → av.okIn hp = true
  | [], _, t, av, h => by cases h
  | (k, x) :: l, ha, t, av, h => by
    unfold allOk at ha
    rw [lk_cons] at h
    cases hx : AV.okIn hp x with
    | false => rw [hx] at ha; cases ha
    | true =>
      rw [hx] at ha
      split at h
      · cases h; exact hx
      · exact allOk_get ha t av h

theorem wk {s : AS} {n : Nat} {sl : List (Nat × AV)} {hp : List (Nat × AO)} (hn : s.n = n) (hsl : AllP (Has s.sl) sl) (hhp : AllP (HasO s.hp) hp) (hok : allOk hp sl = true) : Wk s ⟨n, sl, hp⟩ := by
  rintro B0 w0 a w ⟨ρ, hc, hsz, hdf, hs⟩
  let ρ' : Rho := fun id => if (lk hp id).isSome then ρ id else none
  have hsub : ∀ id v, ρ' id = some v → ρ id = some v := by
    intro id v h
    simp only [ρ'] at h
    split at h
    · exact h
    · cases h
  have hB : ∀ b, Bd ρ' B0 b → Bd ρ B0 b := by
    rintro b (h | ⟨id, v, h1, h2⟩)
    · exact Or.inl h
    · exact Or.inr ⟨id, v, hsub id v h1, h2⟩
  have hK : Keep (Bd ρ B0) w w := ⟨Nat.le_refl _, fun _ _ _ => rfl⟩
  refine ⟨ρ', ⟨hc.bel, hc.b0, fun id v h => ?_, fun id id' v v' b h1 h2 h3 h4 => hc.dist id id' v v' b (hsub _ _ h1) (hsub _ _ h2) h3 h4⟩, hsz.trans hn, hdf, fun t av ht => ?_⟩
  · have h' := hsub id v h
    obtain ⟨ob, h1, h2⟩ := hc.obj id v h'
    simp only [ρ'] at h
    split at h
    · rename_i hso
      obtain ⟨ob', hob'⟩ := Option.isSome_iff_exists.1 hso
      obtain ⟨ob2, h3, h4⟩ := hhp.get _ (lk_mem hob')
      simp only at h3
      rw [h1] at h3
      cases h3
      exact ⟨ob', hob', h4 _ _ _ _ (h2.mv hK (fun b _ hb => hB b hb) (fun _ _ => rfl))⟩
    · cases h
  · obtain ⟨av', h1, h2⟩ := hsl.get _ (lk_mem ht)
    simp only at h1 h2
    obtain ⟨v, h3, h4⟩ := hs t av' h1
    refine ⟨v, h3, ?_⟩
    have h5 := h2 _ _ _ _ h4
    refine AR.mv hK (fun b _ hb => hB b hb) (fun id hid => ?_) h5
    have hok' := allOk_get hok t av ht
    simp only [ρ']
    have : (lk hp id).isSome = true := by
      cases av with
      | ptr i o => have : i = id := Nat.eq_of_beq_eq_true hid; subst this; exact hok'
      | own i => have : i = id := Nat.eq_of_beq_eq_true hid; subst this; exact hok'
      | eptr i _ _ _ => have : i = id := Nat.eq_of_beq_eq_true hid; subst this; exact hok'
      | _ => cases hid
    rw [if_pos this]

/-! ### The answer -/

/-- What the result variables hold. -/
def resE (T : TypeId → Option TI) (s : AS) : List ResultVar → Option (List DV)
  | [] => some []
  | .tmp t :: r => match lk s.sl t, resE T s r with
    | some (.d d), some ds => some (d :: ds)
    | _, _ => none
  | .cell t ty :: r => match T ty, lk s.sl t with
    | some ti, some (.ptr id off) => match lk s.hp id with
      | some (.box _ cs) => match partV ti cs off, resE T s r with
        | some d, some ds => some (d :: ds)
        | _, _ => none
      | _ => none
    | _, _ => none

def resAV : List DV → AV
  | [d] => .d d
  | ds => .tup ds

def rvF (tmps : Array Value) : ResultVar → Sem Value
  | .tmp t => pure (tmps.getD t undef)
  | .cell a t => do loadVar t (← asAddr (tmps.getD a undef))
def resV : List Value → Value
  | [v] => v
  | vs => .tuple vs.toArray

theorem resE_ok {P : Program} {T : TypeId → Option TI} (hT : TOk P T) {s : AS} {ρ : Rho} {B0 : BS} {w0 w : World} {a : Act} (hc : Core ρ B0 w0 w s.hp) (hs : Slots ρ (Bd ρ B0) w s.sl a) : ∀ (l : List ResultVar) (ds : List DV), resE T s l = some ds →
    ∃ vs : List Value, (l.mapM (rvF a.tmps)).run P w = .ok vs w ∧ DsR (Bd ρ B0) w ds vs
  | [], ds, h => by
    simp only [resE, Option.some.injEq] at h
    subst h
    exact ⟨[], rfl, trivial⟩
  | .tmp t :: r, ds, h => by
    simp only [resE] at h
    split at h
    · rename_i d ds' hl hr
      cases h
      obtain ⟨vs, h1, h2⟩ := resE_ok hT hc hs r ds' hr
      obtain ⟨v, h3, h4⟩ := hs t _ hl
      refine ⟨v :: vs, ?_, h4, h2⟩
      have hv : (rvF a.tmps (.tmp t)).run P w = .ok v w := by simp [rvF, Array.getD_eq_getD_getElem?, h3]
      rw [List.mapM_cons, Sem.run_bind, hv, Result.andThen_ok, Sem.run_bind, h1]
      rfl
    · cases h
  | .cell t ty :: r, ds, h => by
    simp only [resE] at h
    split at h
    · rename_i ti id off hti hl
      split at h
      · rename_i bt cs hob
        split at h
        · rename_i d ds' hp hr
          cases h
          obtain ⟨vs, h1, h2⟩ := resE_ok hT hc hs r ds' hr
          obtain ⟨v, h3, g, h4, rfl⟩ := hs t _ hl
          obtain ⟨ob, h5, h6⟩ := hc.obj id _ h4
          rw [hob] at h5
          cases h5
          obtain ⟨g', us, he, _, hb, hul⟩ := h6
          cases he
          obtain ⟨u, hu, hur⟩ := loadBlk_ok (hT _ _ hti) hp hul hb
          refine ⟨u :: vs, ?_, hur, h2⟩
          have hu' : (loadVar ty ⟨g, off, none⟩).run P w = .ok u w := by simpa [Instr.loadAt, Instr.sureAddr] using hu
          have hv : (rvF a.tmps (.cell t ty)).run P w = .ok u w := by simp [rvF, Array.getD_eq_getD_getElem?, h3, asAddr, hu']
          rw [List.mapM_cons, Sem.run_bind, hv, Result.andThen_ok, Sem.run_bind, h1]
          rfl
        · cases h
      · cases h
    · cases h

theorem run_results {P : Program} {fn : Func} {tmps : Array Value} {w : World} {vs : List Value} (h : (fn.results.toList.mapM (rvF tmps)).run P w = .ok vs w) : (results fn tmps).run P w = .ok (resV vs) w := by
  have e : results fn tmps = (do let vs ← fn.results.mapM (rvF tmps); pure (if h : vs.size = 1 then vs[0] else .tuple vs)) := by
    unfold results
    congr 1
  rw [e, Sem.run_bind, Array.mapM_eq_mapM_toList, Sem.run_map, h]
  simp only [Result.andThen_ok, Sem.run_pure]
  match vs with
  | [] => rfl
  | [v] => rfl
  | v :: u :: r => simp [resV]

theorem res_ok {B : BS} {w : World} {ρ : Rho} : ∀ {ds : List DV} {vs : List Value}, DsR B w ds vs → AR ρ B w (resAV ds) (resV vs)
  | [], [], h => ⟨[], rfl, h⟩
  | [d], [v], h => h.1
  | d :: e :: r, v :: u :: vs, h => ⟨v :: u :: vs, rfl, h⟩
  | [d], [], h => h.elim
  | [d], v :: u :: vs, h => h.2.elim
  | d :: e :: r, [v], h => h.2.elim
  | d :: e :: r, [], h => h.elim
  | [], v :: vs, h => h.elim

/-- The post of a function's body. -/
def RetQ (T : TypeId → Option TI) (rs : List ResultVar) (r : AV) : Qs
  | .normal, s | .ret, s => ∃ es, resE T s rs = some es ∧ AV.le (resAV es) r
  | _, _ => False

def params : Nat → List DV → List (Nat × AV)
  | _, [] => []
  | i, d :: ds => (i, .d d) :: params (i + 1) ds

theorem params_lk {B : BS} {w : World} {ρ : Rho} : ∀ {ds : List DV} {vs : List Value} {i t : Nat} {av : AV}, DsR B w ds vs → lk (params i ds) t = some av → ∃ k v, t = i + k ∧ vs[k]? = some v ∧ AR ρ B w av v
  | [], [], i, t, av, _, h => by cases h
  | d :: ds, v :: vs, i, t, av, hd, h => by
    unfold params at h
    rw [lk_cons] at h
    split at h
    · rename_i e
      cases h
      exact ⟨0, v, by omega, rfl, hd.1⟩
    · obtain ⟨k, u, h1, h2, h3⟩ := params_lk hd.2 h
      exact ⟨k + 1, u, by omega, by simpa using h2, h3⟩

theorem acall {P : Program} {T : TypeId → Option TI} (hT : TOk P T) {f : FuncId} {fn : Func} {c : Code} {args : List DV} {r : AV} (hf : P.funcs[f]? = some fn) (hb : fn.body = some c) (hnm : (fn.name == "runtime.NumGoroutine") = false) (hlen : Nat.ble args.length fn.ntmps = true)
    (h : AW P c (RetQ T fn.results.toList r) ⟨fn.ntmps, params 0 args, []⟩) : ACall P f args r := by
  refine ⟨fun vs w => ?_, fun B w vs hB hvs => ?_⟩
  · have hnm' : ¬ fn.name = "runtime.NumGoroutine" := by simpa using hnm
    simp [callFunc, hf, hb, hnm']
  · refine calls_of_wp hf hb ?_
    have hle := Nat.le_of_ble_eq_true hlen
    have hvl := hvs.len
    have hden : Den ⟨fn.ntmps, params 0 args, []⟩ B w { tmps := vs.toArray ++ Array.replicate (fn.ntmps - vs.toArray.size) undef, defers := [] } w := by
      have hBd : ∀ b, b < w.heap.size → Bd (fun _ => none) B b → B b := by
        rintro b _ (h | ⟨_, _, h, _⟩)
        · exact h
        · cases h
      refine ⟨fun _ => none, ⟨Below.refl _ _, hB, (fun _ _ h => by cases h), (fun _ _ _ _ _ h => by cases h)⟩, by simp; omega, rfl, fun t av ht => ?_⟩
      have hvs' : DsR (Bd (fun _ => none) B) w args vs := hvs.mv ⟨Nat.le_refl _, fun _ _ _ => rfl⟩ hBd
      obtain ⟨k, v, h1, h2, h3⟩ := params_lk (ρ := fun _ => none) hvs' ht
      refine ⟨v, ?_, h3⟩
      have hk := (List.getElem?_eq_some_iff.1 h2).1
      rw [h1, Nat.zero_add, Array.getElem?_append_left (by simpa using hk)]
      simpa using h2
    refine Code.wp_mono (fun e a w' hq => ?_) (h B w _ w hden)
    obtain ⟨s', hq, ρ, hc, hn, hdf, hs⟩ := hq
    have fin : (∃ es, resE T s' fn.results.toList = some es ∧ AV.le (resAV es) r) → ∃ v, (results fn a.tmps).run P w' = .ok v w' ∧ ∃ u, Ending.returned v = .returned u ∧ Below w.heap.size w w' ∧ AR (fun _ => none) B w' r u := by
      rintro ⟨es, h1, h2⟩
      obtain ⟨us, h3, h4⟩ := resE_ok hT hc hs _ _ h1
      refine ⟨_, run_results h3, _, rfl, hc.bel, h2 _ _ _ _ (res_ok ?_)⟩
      exact h4.mv ⟨Nat.le_refl _, fun _ _ _ => rfl⟩ (fun b _ hb => Or.inl hb)
    cases e with
    | normal => obtain ⟨v, h1, h2⟩ := fin hq; exact ⟨hdf, v, h1, h2⟩
    | ret => obtain ⟨v, h1, h2⟩ := fin hq; exact ⟨hdf, v, h1, h2⟩
    | exit id => exact hq.elim
    | goto l => exact hq.elim
    | panic ch => exact hq.elim
    | outgrown => exact hq.elim

end Go.Proofs.Ytkcagkcphobmfaa
