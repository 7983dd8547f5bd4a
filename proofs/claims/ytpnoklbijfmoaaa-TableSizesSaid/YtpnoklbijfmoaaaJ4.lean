/-
  THE ABSTRACT MACHINE, 23: calls that are lent objects of the caller: they may write them. No condition; nothing of the program.
-/
import Derived.Test.YtpnoklbijfmoaaaJ3
import Derived.Test.YtpnoklbijfmoaaaJ2
import Derived.Test.YtpnoklbijfmoaaaJ1
import Derived.Laws.BytesString
import Derived.Laws.BitsLemmas
set_option linter.unusedVariables false
set_option linter.unusedSimpArgs false
namespace Go.Proofs.Ytpnoklbijfmoaaa
open Go.RowKit

/-- Values of slots. -/
def AsR (ρ : Rho) (B : BS) (w : World) : List AV → List Value → Prop
  | [], [] => True
  | a :: l, v :: vs => AR ρ B w a v ∧ AsR ρ B w l vs
  | _, _ => False
/-- The blocks of objects; some objects are there. -/
def Lent (ρ : Rho) : BS := fun b => ∃ id v, ρ id = some v ∧ vblk v = some b
def Al (ρ : Rho) (ids : List Nat) : Prop := ∀ id ∈ ids, ∃ v, ρ id = some v

/-- WHAT A FUNCTION DOES THAT IS LENT OBJECTS: they are numbered avs in hp; those of wi are there; it answers r and leaves the objects hp' with Q r hp', those of wo are there. -/
structure ACallL (P : Program) (f : FuncId) (args : List AV) (hp : List (Nat × AO)) (wi wo : List Nat) (Q : AV → List (Nat × AO) → Prop) : Prop where
  en : ∀ vs w, (callFunc f vs).run P w = .ok (.enter f vs) w
  go : ∀ ρ B w vs, Core ρ B ⟨w, Lent ρ⟩ w hp → Al ρ wi → AsR ρ (Bd ρ B) w args vs → Calls P f vs.toArray w fun e w' =>
    ∃ v ρ' r hp', e = .returned v ∧ Q r hp' ∧ Core ρ' B ⟨w, Lent ρ⟩ w' hp' ∧ Al ρ' wo ∧ AR ρ' (Bd ρ' B) w' r v

/-! ### The callee -/
def paramsA : Nat → List AV → List (Nat × AV)
  | _, [] => []
  | i, d :: ds => (i, d) :: paramsA (i + 1) ds
theorem paramsA_lk {B : BS} {w : World} {ρ : Rho} : ∀ {ds : List AV} {vs : List Value} {i t : Nat} {av : AV}, AsR ρ B w ds vs → lk (paramsA i ds) t = some av → ∃ k v, t = i + k ∧ vs[k]? = some v ∧ AR ρ B w av v
  | [], [], i, t, av, _, h => by cases h
  | d :: ds, v :: vs, i, t, av, hd, h => by
    unfold paramsA at h
    rw [lk_cons] at h
    split at h
    · rename_i e
      cases h
      exact ⟨0, v, by omega, rfl, hd.1⟩
    · obtain ⟨k, u, h1, h2, h3⟩ := paramsA_lk hd.2 h
      exact ⟨k + 1, u, by omega, by simpa using h2, h3⟩
theorem AsR.len {ρ : Rho} {B : BS} {w : World} : ∀ {ls : List AV} {cs : List Value}, AsR ρ B w ls cs → ls.length = cs.length
  | [], [], _ => rfl
  | _ :: _, _ :: _, h => congrArg (· + 1) (AsR.len h.2)

/-- The results of a frame. -/
def ResL (P : Program) (s : AS) (rs : List ResultVar) (r : AV) : Prop := ∀ (ρ : Rho) (B0 : BS) (w0 : Wz) (w : World) (a : Act), Core ρ B0 w0 w s.hp → Slots ρ (Bd ρ B0) w s.sl a → ∃ vs : List Value, (rs.mapM (rvF a.tmps)).run P w = .ok vs w ∧ AR ρ (Bd ρ B0) w r (resV vs)
theorem resL_d {P : Program} {T : TypeId → Option TI} (hT : TOk P T) {s : AS} {rs : List ResultVar} {es : List DV} {r : AV} (h : resE T s rs = some es) (k : AV.le (resAV es) r) : ResL P s rs r := by
  intro ρ B0 w0 w a hc hs
  obtain ⟨vs, h1, h2⟩ := resE_ok hT hc hs _ _ h
  exact ⟨vs, h1, k _ _ _ _ (res_ok h2)⟩
theorem resL_p {P : Program} {s : AS} {t : Nat} {av : AV} (h : lk s.sl t = some av) : ResL P s [.tmp t] av := by
  intro ρ B0 w0 w a hc hs
  obtain ⟨v, h1, h2⟩ := hs t _ h
  refine ⟨[v], ?_, h2⟩
  have hv : (rvF a.tmps (.tmp t)).run P w = .ok v w := by simp [rvF, Array.getD_eq_getD_getElem?, h1]
  rw [List.mapM_cons, Sem.run_bind, hv]
  rfl
theorem resL_pt {P : Program} {T : TypeId → Option TI} (hT : TOk P T) {s : AS} {t id : Nat} {rs : List ResultVar} {e : DV} {es : List DV} (h : lk s.sl t = some (.ptr id 0)) (k : resE T s rs = some (e :: es)) : ResL P s (.tmp t :: rs) (.ptup id (e :: es)) := by
  intro ρ B0 w0 w a hc hs
  obtain ⟨v, h1, g, h2, rfl⟩ := hs t _ h
  obtain ⟨vs, h3, h4⟩ := resE_ok hT hc hs _ _ k
  have hv : (rvF a.tmps (.tmp t)).run P w = .ok (.pointer (some ⟨g, 0, none⟩)) w := by simp [rvF, Array.getD_eq_getD_getElem?, h1]
  refine ⟨.pointer (some ⟨g, 0, none⟩) :: vs, ?_, ?_⟩
  · rw [List.mapM_cons, Sem.run_bind, hv, Result.andThen_ok, Sem.run_bind, h3]
    rfl
  · cases vs with
    | nil => exact h4.elim
    | cons u us => exact ⟨g, h2, u :: us, rfl, h4⟩

/-- The post of a function's body that is lent objects. -/
def RetL (P : Program) (rs : List ResultVar) (wo : List Nat) (Q : AV → List (Nat × AO) → Prop) : Qs
  | .normal, s | .ret, s => ∃ r0 r hp' sl', Q r hp' ∧ ResL P s rs r0 ∧ Wk ⟨s.n + 1, (s.n, r0) :: s.sl, s.hp⟩ ⟨s.n + 1, (s.n, r) :: sl', hp'⟩ ∧ AllP (fun id => ∃ t av, lk ((s.n, r) :: sl') t = some av ∧ avId av = some id) wo
  | _, _ => False
theorem rL {P : Program} {rs : List ResultVar} {wo : List Nat} {Q : AV → List (Nat × AO) → Prop} {s : AS} (r0 r : AV) (hp' : List (Nat × AO)) (sl' : List (Nat × AV)) (h1 : Q r hp') (h2 : ResL P s rs r0) (h3 : Wk ⟨s.n + 1, (s.n, r0) :: s.sl, s.hp⟩ ⟨s.n + 1, (s.n, r) :: sl', hp'⟩) (h4 : AllP (fun id => ∃ t av, lk ((s.n, r) :: sl') t = some av ∧ avId av = some id) wo) : RetL P rs wo Q .ret s := ⟨r0, r, hp', sl', h1, h2, h3, h4⟩
theorem rLn {P : Program} {rs : List ResultVar} {wo : List Nat} {Q : AV → List (Nat × AO) → Prop} {s : AS} (r0 r : AV) (hp' : List (Nat × AO)) (sl' : List (Nat × AV)) (h1 : Q r hp') (h2 : ResL P s rs r0) (h3 : Wk ⟨s.n + 1, (s.n, r0) :: s.sl, s.hp⟩ ⟨s.n + 1, (s.n, r) :: sl', hp'⟩) (h4 : AllP (fun id => ∃ t av, lk ((s.n, r) :: sl') t = some av ∧ avId av = some id) wo) : RetL P rs wo Q .normal s := ⟨r0, r, hp', sl', h1, h2, h3, h4⟩

theorem acallL {P : Program} {f : FuncId} {fn : Func} {c : Code} {args : List AV} {hp : List (Nat × AO)} {wi wo : List Nat} {Q : AV → List (Nat × AO) → Prop} (ws : List (Nat × Nat)) (hf : P.funcs[f]? = some fn) (hb : fn.body = some c) (hnm : (fn.name == "runtime.NumGoroutine") = false) (hlen : Nat.ble args.length fn.ntmps = true)
    (hws : ∀ t id, (t, id) ∈ ws → args.length ≤ t ∧ t < fn.ntmps ∧ id ∈ wi)
    (h : AW P c (RetL P fn.results.toList wo Q) ⟨fn.ntmps, paramsA 0 args ++ ws.map fun p => (p.1, .wit p.2), hp⟩) : ACallL P f args hp wi wo Q := by
  refine ⟨fun vs w => ?_, fun ρ B w vs hc hal hvs => ?_⟩
  · have hnm' : ¬ fn.name = "runtime.NumGoroutine" := by simpa using hnm
    simp [callFunc, hf, hb, hnm']
  · refine calls_of_wp hf hb ?_
    have hle := Nat.le_of_ble_eq_true hlen
    have hvl := hvs.len
    have hden : Den ⟨fn.ntmps, paramsA 0 args ++ ws.map fun p => (p.1, .wit p.2), hp⟩ B ⟨w, Lent ρ⟩ { tmps := vs.toArray ++ Array.replicate (fn.ntmps - vs.toArray.size) undef, defers := [] } w := by
      refine ⟨ρ, hc, by simp; omega, rfl, fun t av ht => ?_⟩
      have key : ∀ {l1 l2 : List (Nat × AV)} {t : Nat} {av : AV}, lk (l1 ++ l2) t = some av → lk l1 t = some av ∨ (t, av) ∈ l2 := by
        intro l1
        induction l1 with
        | nil => intro l2 t av h; exact Or.inr (lk_mem h)
        | cons p l1 ih =>
          intro l2 t av h
          obtain ⟨k, x⟩ := p
          rw [List.cons_append, lk_cons] at h
          rw [lk_cons]
          split at h
          · rename_i e; cases h; exact Or.inl (by rw [if_pos e])
          · rename_i e; rw [if_neg e]; exact ih h
      rcases key ht with ht | ht
      · obtain ⟨k, v, h1, h2, h3⟩ := paramsA_lk hvs ht
        refine ⟨v, ?_, h3⟩
        have hk := (List.getElem?_eq_some_iff.1 h2).1
        rw [h1, Nat.zero_add, Array.getElem?_append_left (by simpa using hk)]
        simpa using h2
      · obtain ⟨p, hp1, hp2⟩ := List.mem_map.1 ht
        obtain ⟨t', id⟩ := p
        cases hp2
        obtain ⟨h1, h2, h3⟩ := hws _ _ hp1
        obtain ⟨v, hv⟩ := hal id h3
        refine ⟨undef, ?_, v, hv⟩
        rw [Array.getElem?_append_right (by simp; omega), Array.getElem?_replicate, if_pos (by simp; omega)]
    refine Code.wp_mono (fun e a w' hq => ?_) (h B ⟨w, Lent ρ⟩ _ w hden)
    obtain ⟨s', hq, ρ1, hc1, hn1, hdf1, hs1⟩ := hq
    have fin : (∃ r0 r hp' sl', Q r hp' ∧ ResL P s' fn.results.toList r0 ∧ Wk ⟨s'.n + 1, (s'.n, r0) :: s'.sl, s'.hp⟩ ⟨s'.n + 1, (s'.n, r) :: sl', hp'⟩ ∧ AllP (fun id => ∃ t av, lk ((s'.n, r) :: sl') t = some av ∧ avId av = some id) wo) →
        ∃ v, (results fn a.tmps).run P w' = .ok v w' ∧ ∃ u ρ' r hp', Ending.returned v = .returned u ∧ Q r hp' ∧ Core ρ' B ⟨w, Lent ρ⟩ w' hp' ∧ Al ρ' wo ∧ AR ρ' (Bd ρ' B) w' r u := by
      rintro ⟨r0, r, hp', sl', h1, h2, h3, h4⟩
      obtain ⟨us, h5, h6⟩ := h2 ρ1 B ⟨w, Lent ρ⟩ w' a hc1 hs1
      have hd2 : Den ⟨s'.n + 1, (s'.n, r0) :: s'.sl, s'.hp⟩ B ⟨w, Lent ρ⟩ { a with tmps := a.tmps.push (resV us) } w' := by
        refine ⟨ρ1, hc1, by simp [hn1], hdf1, fun t av ht => ?_⟩
        rw [lk_cons] at ht
        split at ht
        · rename_i e
          cases ht
          exact ⟨_, by rw [← e, ← hn1]; simp, h6⟩
        · obtain ⟨v, q1, q2⟩ := hs1 t av ht
          have := (Array.getElem?_eq_some_iff.1 q1).1
          exact ⟨v, by rw [Array.getElem?_push_lt this]; rw [Array.getElem?_eq_getElem this] at q1; exact q1, q2⟩
      obtain ⟨ρ2, hc2, hn2, _, hs2⟩ := h3 _ _ _ _ hd2
      obtain ⟨v, q1, q2⟩ := hs2 s'.n r (by rw [lk_cons, if_pos rfl])
      have : v = resV us := by rw [← hn1] at q1; simpa using q1.symm
      subst this
      refine ⟨_, run_results h5, _, ρ2, r, hp', rfl, h1, hc2, fun id hid => ?_, q2⟩
      obtain ⟨t, av, q3, q4⟩ := h4.get id hid
      obtain ⟨v, _, q5⟩ := hs2 t av q3
      exact avId_R q4 q5
    cases e with
    | normal => obtain ⟨v, h1, h2⟩ := fin hq; exact ⟨hdf1, v, h1, h2⟩
    | ret => obtain ⟨v, h1, h2⟩ := fin hq; exact ⟨hdf1, v, h1, h2⟩
    | exit id => exact hq.elim
    | goto l => exact hq.elim
    | panic ch => exact hq.elim
    | outgrown => exact hq.elim

theorem acallLN {P : Program} {f : FuncId} {fn : Func} {c : Code} {args : List AV} {hp : List (Nat × AO)} {wi wo : List Nat} {Q : AV → List (Nat × AO) → Prop} (n : Nat) (rs : List ResultVar) (ws : List (Nat × Nat)) (hf : P.funcs[f]? = some fn) (hb : fn.body = some c) (hnm : (fn.name == "runtime.NumGoroutine") = false) (hn : fn.ntmps = n) (hrs : fn.results.toList = rs) (hlen : Nat.ble args.length n = true)
    (hws : AllP (fun p => args.length ≤ p.1 ∧ p.1 < n ∧ p.2 ∈ wi) ws)
    (h : AW P c (RetL P rs wo Q) ⟨n, paramsA 0 args ++ ws.map fun p => (p.1, .wit p.2), hp⟩) : ACallL P f args hp wi wo Q := by
  subst hn; subst hrs
  exact acallL ws hf hb hnm hlen (fun t id hm => hws.get _ hm) h

/-! ### The caller -/
/-- The callee's numbers of objects in the caller's. -/
def rnO (m : List (Nat × Nat)) : AV → Option AV
  | .d x => some (.d x)
  | .ptr i o => match lk m i with
    | some j => some (.ptr j o)
    | none => none
  | .own i => match lk m i with
    | some j => some (.own j)
    | none => none
  | _ => none
def AV.rn (m : List (Nat × Nat)) : AV → AV
  | .ptr i o => match lk m i with
    | some j => .ptr j o
    | none => .dead
  | .own i => match lk m i with
    | some j => .own j
    | none => .dead
  | .ptup i xs => match lk m i with
    | some j => .ptup j xs
    | none => .dead
  | .d x => .d x
  | .tup xs => .tup xs
  | _ => .dead
def rnH (m : List (Nat × Nat)) : List (Nat × AO) → List (Nat × AO)
  | [] => []
  | (i, ob) :: l => match lk m i with
    | some j => (j, ob) :: rnH m l
    | none => rnH m l
/-- No two have one number. -/
def injB : List (Nat × Nat) → Bool
  | [] => true
  | (_, j) :: l => l.all (fun p => !Nat.beq p.2 j) && injB l
theorem injB_ok : ∀ {m : List (Nat × Nat)}, injB m = true → ∀ {i i' j : Nat}, lk m i = some j → lk m i' = some j → i = i'
  | [], _, _, _, _, h, _ => by cases h
  | (k, x) :: l, h, i, i', j, h1, h2 => by
    unfold injB at h
    rw [Bool.and_eq_true] at h
    rw [lk_cons] at h1 h2
    have no : ∀ q, lk l q = some x → False := fun q hq => by
      have := List.all_eq_true.1 h.1 _ (lk_mem hq)
      simp at this
    split at h1 <;> split at h2
    · omega
    · cases h1; exact (no _ h2).elim
    · cases h2; exact (no _ h1).elim
    · exact injB_ok h.2 h1 h2
theorem lk_rnH {m : List (Nat × Nat)} (hm : injB m = true) {l : List (Nat × AO)} {i j : Nat} (h : lk m i = some j) : ∀ (hp : List (Nat × AO)), lk (rnH m hp ++ l) j = match lk hp i with | some ob => some ob | none => lk l j
  | [] => rfl
  | (k, ob) :: hp => by
    have ih := lk_rnH hm (l := l) h hp
    rw [lk_cons]
    unfold rnH
    by_cases e : k = i
    · subst e
      rw [if_pos rfl, h]
      show lk ((j, ob) :: (rnH m hp ++ l)) j = _
      rw [lk_cons, if_pos rfl]
    · rw [if_neg e]
      cases hk : lk m k with
      | none => exact ih
      | some j' =>
        show lk ((j', ob) :: (rnH m hp ++ l)) j = _
        rw [lk_cons, if_neg (fun e2 : j' = j => e (injB_ok hm (by rw [← e2]; exact hk) h))]
        exact ih
theorem lk_rnH_no {m : List (Nat × Nat)} {l : List (Nat × AO)} {j : Nat} (h : ∀ i, lk m i ≠ some j) : ∀ (hp : List (Nat × AO)), lk (rnH m hp ++ l) j = lk l j
  | [] => rfl
  | (k, ob) :: hp => by
    have ih := lk_rnH_no (l := l) h hp
    unfold rnH
    cases hk : lk m k with
    | none => exact ih
    | some j' =>
      show lk ((j', ob) :: (rnH m hp ++ l)) j = _
      rw [lk_cons, if_neg (fun e2 : j' = j => h k (by rw [← e2]; exact hk))]
      exact ih
def AO.noSz : AO → Bool
  | .sz _ => false
  | .is _ ob => ob.noSz
  | _ => true
theorem OR.lend {B B' : BS} {w0 w1 : Wz} {w : World} {ob : AO} {v : Value} (hn : ob.noSz = true) (hB : ∀ b, b < w.heap.size → B' b → B b) (ho : ∀ b, vblk v = some b → w1.own b) (h : OR B w0 w ob v) : OR B' w1 w ob v := by
  have hK : Keep B w w := ⟨Nat.le_refl _, fun _ _ _ => rfl⟩
  induction ob with
  | box t cs => obtain ⟨g, vs, rfl, h1, h2, h3⟩ := h; exact ⟨g, vs, rfl, ho g rfl, h2, h3.mv hK hB⟩
  | row e sz n el => obtain ⟨xs, ⟨h1, h2⟩, h3⟩ := h; exact ⟨xs, ⟨h1, ho⟩, fun i j hi hj => let ⟨x, hx, hl⟩ := h3 i j hi hj; ⟨x, hx, LfR.mv hK hB _ hl⟩⟩
  | «is» x ob ih => exact ⟨h.1, ih hn h.2⟩
  | sz k => cases hn
theorem OR.back {B B' : BS} {w0 w1 : Wz} {w : World} {ob : AO} {v : Value} (hs : w1.sz ≤ w0.sz) (hB : ∀ b, b < w.heap.size → B' b → B b) (ho : ∀ b, w0.own b → w1.own b) (h : OR B w0 w ob v) : OR B' w1 w ob v := by
  have hK : Keep B w w := ⟨Nat.le_refl _, fun _ _ _ => rfl⟩
  induction ob with
  | box t cs => obtain ⟨g, vs, rfl, h1, h2, h3⟩ := h; exact ⟨g, vs, rfl, ho g h1, h2, h3.mv hK hB⟩
  | row e sz n el => obtain ⟨xs, ⟨h1, h2⟩, h3⟩ := h; exact ⟨xs, ⟨h1, fun b hb => ho b (h2 b hb)⟩, fun i j hi hj => let ⟨x, hx, hl⟩ := h3 i j hi hj; ⟨x, hx, LfR.mv hK hB _ hl⟩⟩
  | «is» x ob ih => exact ⟨h.1, ih h.2⟩
  | sz k => exact ⟨h.1, Nat.le_trans hs h.2.1, h.2.2⟩

/-- What slots say of objects that may have moved is forgotten (but that they are there). -/
def killA (ks kw : List Nat) (av : AV) : AV := match avId av with
  | some i => bif ks.any fun k => Nat.beq k i then (bif kw.any fun k => Nat.beq k i then .wit i else .dead) else av
  | none => av
def killS (ks kw : List Nat) : List (Nat × AV) → List (Nat × AV)
  | [] => []
  | (t, av) :: l => (t, killA ks kw av) :: killS ks kw l
theorem lk_killS {ks kw : List Nat} : ∀ {l : List (Nat × AV)} {t : Nat} {av : AV}, lk (killS ks kw l) t = some av → ∃ av', lk l t = some av' ∧ av = killA ks kw av'
  | [], _, _, h => by cases h
  | (k, x) :: l, t, av, h => by
    unfold killS at h
    rw [lk_cons] at h
    rw [lk_cons]
    split at h
    · rename_i e; cases h; exact ⟨x, by rw [if_pos e], rfl⟩
    · rename_i e; rw [if_neg e]; exact lk_killS h
theorem on_id {av : AV} {k : Nat} (h : av.on k = true) : avId av = some k := by
  cases av <;> first | (have := Nat.eq_of_beq_eq_true h; rw [← this]; rfl) | cases h
theorem anyB {l : List Nat} {i : Nat} (h : (l.any fun k => Nat.beq k i) = true) : i ∈ l := by
  obtain ⟨k, h1, h2⟩ := List.any_eq_true.1 h
  have := Nat.eq_of_beq_eq_true h2
  subst this
  exact h1
theorem lk_app {α : Type} : ∀ (l l' : List (Nat × α)) (t : Nat), lk (l ++ l') t = match lk l t with | some x => some x | none => lk l' t
  | [], _, _ => rfl
  | (k, x) :: l, l', t => by
    rw [List.cons_append, lk_cons, lk_cons]
    split
    · rfl
    · exact lk_app l l' t

def ArgsL (m : List (Nat × Nat)) (s : AS) : List Operand → List AV → Prop
  | [], [] => True
  | x :: r, a :: avs => (∃ a' b, geto s x = some a' ∧ AV.le a' b ∧ rnO m a = some b) ∧ ArgsL m s r avs
  | _, _ => False
theorem argL {m : List (Nat × Nat)} {s : AS} {x : Operand} {r : List Operand} {a a' : AV} {avs : List AV} (h : geto s x = some a') (k : rnO m a = some a') (t : ArgsL m s r avs) : ArgsL m s (x :: r) (a :: avs) := ⟨⟨a', a', h, AV.le.rfl, k⟩, t⟩
theorem argLe {m : List (Nat × Nat)} {s : AS} {x : Operand} {r : List Operand} {a a' b : AV} {avs : List AV} (h : geto s x = some a') (l : AV.le a' b) (k : rnO m a = some b) (t : ArgsL m s r avs) : ArgsL m s (x :: r) (a :: avs) := ⟨⟨a', b, h, l, k⟩, t⟩

theorem ArgsL.ok {m : List (Nat × Nat)} {s : AS} {ρ ρc : Rho} {B Bc : BS} {w : World} {a : Act} (hs : Slots ρ B w s.sl a) (hB : ∀ b, b < w.heap.size → Bc b → B b) (hρ : ∀ i j, lk m i = some j → ρc i = ρ j) : ∀ {xs : List Operand} {avs : List AV}, ArgsL m s xs avs → AsR ρc Bc w avs (xs.map a.eval)
  | [], [], _ => trivial
  | x :: r, y :: avs, ⟨⟨a', b, h1, h2, h3⟩, h⟩ => by
    refine ⟨?_, ArgsL.ok hs hB hρ h⟩
    have h4 := h2 _ _ _ _ (geto_ok hs h1)
    cases y with
    | d d => cases h3; exact DR.mv ⟨Nat.le_refl _, fun _ _ _ => rfl⟩ hB h4
    | ptr i o =>
      simp only [rnO] at h3
      split at h3
      · rename_i j hj; cases h3; obtain ⟨g, q1, q2⟩ := h4; exact ⟨g, (hρ i j hj).trans q1, q2⟩
      · cases h3
    | own i =>
      simp only [rnO] at h3
      split at h3
      · rename_i j hj; cases h3; obtain ⟨q1, q2⟩ := h4; exact ⟨(hρ i j hj).trans q1, q2⟩
      · cases h3
    | _ => cases h3
  | [], _ :: _, h => h.elim
  | _ :: _, [], h => h.elim

open Classical in
set_option maxHeartbeats 1000000 in
/-- A CALL THAT IS LENT OBJECTS: m says which of the caller's they are, mn what the callee's new ones are called, ks whose blocks may have moved, kw which of these are there behind it. -/
theorem mCL {P : Program} {ops : Array Oper} {Qx : Qs} {o : Oper} {l : List Oper} {s : AS} {c : Call} {f : FuncId} {args : List AV} {hp : List (Nat × AO)} {wi wo : List Nat} {Q : AV → List (Nat × AO) → Prop} (h : ACallL P f args hp wi wo Q) (m mn : List (Nat × Nat)) (ks kw : List Nat)
    (hc : callOf o.op = some c) (hf : isF c.callee = some f) (ha : ArgsL m s c.args.toList args)
    (hob : AllP (fun p => ∃ ob' ob, lk s.hp p.2 = some ob' ∧ lk hp p.1 = some ob ∧ AO.le ob' ob ∧ ob.noSz = true) m)
    (hmn : AllP (fun p => lk s.hp p.2 = none ∧ lk m p.1 = none) mn)
    (hwi : AllP (fun i => ∃ j t av, lk m i = some j ∧ lk s.sl t = some av ∧ avId av = some j) wi)
    (hks : AllP (fun p => (ks.any fun k => Nat.beq k p.2) = true ∨ ∃ x b, lk s.hp p.2 = some (.is x b) ∧ p.1 ∈ wo ∧ ∀ r hp', Q r hp' → ∃ d, lk hp' p.1 = some (.is x d)) m)
    (hkw : AllP (fun j => ∃ i, lk m i = some j ∧ i ∈ wo) kw)
    (k : ∀ r hp', Q r hp' → AL P ops Qx l (AS.put ⟨s.n, killS ks kw s.sl, rnH (mn ++ m) hp' ++ s.hp⟩ o.dst (r.rn (mn ++ m))))
    (hm : injB (mn ++ m) = true := by rfl) (hg : gst ops s o = some true := by rfl) (hd : dok o.dst s.n = true := by rfl) : AL P ops Qx (o :: l) s := by
  rintro B0 w0 a w ⟨ρ, hcr, hn, hdf, hs⟩
  have hmm : ∀ i j, lk m i = some j → lk (mn ++ m) i = some j := by
    intro i j hi
    rw [lk_app]
    cases hq : lk mn i with
    | none => exact hi
    | some j' =>
      have := (hmn.get _ (lk_mem hq)).2
      simp only at this
      rw [hi] at this; cases this
  have hm2 : ∀ i j, lk (mn ++ m) i = some j → lk s.hp j = none ∨ lk m i = some j := by
    intro i j hi
    rw [lk_app] at hi
    cases hq : lk mn i with
    | none => rw [hq] at hi; exact Or.inr hi
    | some j' => rw [hq] at hi; cases hi; exact Or.inl (hmn.get _ (lk_mem hq)).1
  obtain ⟨ρc, hρ0⟩ : ∃ ρc : Rho, ρc = fun i => match lk m i with | some j => ρ j | none => none := ⟨_, rfl⟩
  have hρc : ∀ i j, lk m i = some j → ρc i = ρ j := fun i j hi => by rw [hρ0]; simp only [hi]
  have hρc2 : ∀ i v, ρc i = some v → ∃ j, lk m i = some j ∧ ρ j = some v := by
    intro i v hv
    rw [hρ0] at hv
    simp only at hv
    split at hv
    · rename_i j hj; exact ⟨j, hj, hv⟩
    · cases hv
  have hLo : ∀ b, Lent ρc b → w0.own b ∧ b < w.heap.size := by
    rintro b ⟨i, v, h1, h2⟩
    obtain ⟨j, _, h3⟩ := hρc2 i v h1
    obtain ⟨ob, _, h4⟩ := hcr.obj j v h3
    exact h4.blk b h2
  have hLB : ∀ b, Lent ρc b → Bd ρ B0 b := by
    rintro b ⟨i, v, h1, h2⟩
    obtain ⟨j, _, h3⟩ := hρc2 i v h1
    exact Or.inr ⟨j, v, h3, h2⟩
  obtain ⟨Bc, hBc⟩ : ∃ Bc : BS, Bc = fun b => Bd ρ B0 b ∧ ¬ Lent ρc b := ⟨_, rfl⟩
  have hBB : ∀ b, Bd ρc Bc b → Bd ρ B0 b := by
    rintro b (h1 | h1)
    · rw [hBc] at h1; exact h1.1
    · exact hLB b h1
  have hcc : Core ρc Bc ⟨w, Lent ρc⟩ w hp := by
    refine ⟨Bel.refl _ _, fun b hb => ?_, fun i v hv => ?_, fun i i' v v' b h1 h2 h3 h4 => ?_⟩
    · rw [hBc] at hb; exact ⟨hcr.bdlt b hb.1, hb.2⟩
    · obtain ⟨j, h1, h2⟩ := hρc2 i v hv
      obtain ⟨ob', ob, h3, h4, h5, h6⟩ := hob.get _ (lk_mem h1)
      obtain ⟨ob1, h7, h8⟩ := hcr.obj j v h2
      simp only at h3 h4
      rw [h3] at h7; cases h7
      exact ⟨ob, h4, (h5 _ _ _ _ h8).lend h6 (fun b _ hb => hBB b hb) (fun b hb => Or.inr ⟨i, v, hv, hb⟩)⟩
    · obtain ⟨j, q1, q2⟩ := hρc2 i v h1
      obtain ⟨j', q3, q4⟩ := hρc2 i' v' h2
      have := hcr.dist j j' v v' b q2 q4 h3 h4
      subst this
      exact injB_ok hm (hmm _ _ q1) (hmm _ _ q3)
  have hal : Al ρc wi := by
    intro i hi
    obtain ⟨j, t, av, h1, h2, h3⟩ := hwi.get _ hi
    obtain ⟨u, _, h4⟩ := hs t av h2
    obtain ⟨v, h5⟩ := avId_R h3 h4
    exact ⟨v, (hρc i j h1).trans h5⟩
  have hargs : AsR ρc (Bd ρc Bc) w args (c.args.toList.map a.eval) := ArgsL.ok hs (fun b _ hb => hBB b hb) hρc ha
  have hop : o.op = .call c := by
    unfold callOf at hc
    split at hc
    · rename_i h; cases hc; exact h
    · cases hc
  have hr : (execOp a.eval o).run P w = .ok (.enter f (c.args.toList.map a.eval).toArray) w := by
    have hf2 := isF_fn (s := s) hf
    unfold fnOf at hf2
    split at hf2
    · rename_i x hcal
      split at hf2
      · rename_i f' n caps hx
        obtain ⟨vs, hxe, hsz, hj⟩ := (geto_ok hs hx : LfR _ _ _ _)
        simp only [Option.some.injEq, Prod.mk.injEq] at hf2
        obtain ⟨rfl, hn0⟩ := hf2
        cases n with
        | succ n => simp [capsD] at hn0
        | zero =>
          have : vs = #[] := Array.eq_empty_of_size_eq_zero hsz
          subst this
          unfold execOp
          rw [hop]
          simp only [resolve, hcal, Deferred.ofValue, hxe, Sem.run_bind, Sem.run_pure, Result.andThen_ok, invoke, h.en]
          congr 2
          rw [← Array.toList_inj]
          simp
      · cases hf2
    · cases hf2
  refine wpl_call (gst_ok hg hs) hr ((h.go ρc Bc w _ hcc hal hargs).mono ?_)
  rintro e w' ⟨v, ρ', r, hp', rfl, hq, hc', hal', hv⟩
  refine ⟨v, rfl, k r hp' hq B0 w0 _ w' ?_⟩
  obtain ⟨ρ2, hρ2⟩ : ∃ ρ2 : Rho, ρ2 = fun j => if hj : ∃ i, lk (mn ++ m) i = some j then ρ' hj.choose else ρ j := ⟨_, rfl⟩
  have h2a : ∀ i j, lk (mn ++ m) i = some j → ρ2 j = ρ' i := by
    intro i j hi
    have hj : ∃ i, lk (mn ++ m) i = some j := ⟨i, hi⟩
    rw [hρ2]
    simp only [dif_pos hj]
    rw [injB_ok hm hj.choose_spec hi]
  have h2b : ∀ j, (∀ i, lk (mn ++ m) i ≠ some j) → ρ2 j = ρ j := by
    intro j hj
    rw [hρ2]
    simp only
    rw [dif_neg (fun ⟨i, hi⟩ => hj i hi)]
  have hcase : ∀ j, (∃ i, lk (mn ++ m) i = some j) ∨ ∀ i, lk (mn ++ m) i ≠ some j := by
    intro j
    by_cases hj : ∃ i, lk (mn ++ m) i = some j
    · exact Or.inl hj
    · exact Or.inr fun i hi => hj ⟨i, hi⟩
  have hK : Keep (Bd ρ B0) w w' := ⟨hc'.bel.size, fun b hb hB => hc'.bel.blk b hb (fun hL => hB (hLB b hL))⟩
  have hnoL : ∀ j v b, (∀ i, lk (mn ++ m) i ≠ some j) → ρ j = some v → vblk v = some b → ¬ Lent ρc b := by
    rintro j v b hj h1 h2 ⟨i, u, q1, q2⟩
    obtain ⟨j', q3, q4⟩ := hρc2 i u q1
    have := hcr.dist j j' v u b h1 q4 h2 q2
    subst this
    exact hj i (hmm _ _ q3)
  have hB2 : ∀ b, Bd ρ2 B0 b → Bd ρ' Bc b := by
    rintro b (hb | ⟨j, u, q1, q2⟩)
    · refine Or.inl ?_
      rw [hBc]
      refine ⟨Or.inl hb, fun hL => ?_⟩
      obtain ⟨h1, h2⟩ := hcr.b0 b hb
      rcases (hLo b hL).1 with h3 | h3
      · omega
      · exact h2 h3
    · rcases hcase j with ⟨i, hi⟩ | hj
      · exact Or.inr ⟨i, u, (h2a i j hi).symm.trans q1, q2⟩
      · rw [h2b j hj] at q1
        refine Or.inl ?_
        rw [hBc]
        exact ⟨Or.inr ⟨j, u, q1, q2⟩, hnoL j u b hj q1 q2⟩
  have hB3 : ∀ b, b < w.heap.size → Bd ρ2 B0 b → Bd ρ B0 b := by
    intro b hlt hb
    rcases hB2 b hb with h1 | ⟨i, u, q1, q2⟩
    · rw [hBc] at h1; exact h1.1
    · obtain ⟨ob, _, ho⟩ := hc'.obj i u q1
      rcases (ho.blk b q2).1 with h1 | h1
      · exact absurd h1 (Nat.not_le_of_lt hlt)
      · exact hLB b h1
  have hcore : Core ρ2 B0 w0 w' (rnH (mn ++ m) hp' ++ s.hp) := by
    refine ⟨hcr.bel.put hc'.bel.os hc'.bel.tape hc'.bel.output hc'.bel.size (g := Lent ρc) (fun b hL => (hLo b hL).1) (fun b hb hL => hc'.bel.blk b hb hL), hcr.b0, fun j u hu => ?_, fun j j' u u' b h1 h2 h3 h4 => ?_⟩
    · rcases hcase j with ⟨i, hi⟩ | hj
      · rw [h2a i j hi] at hu
        obtain ⟨ob, q1, q2⟩ := hc'.obj i u hu
        exact ⟨ob, by rw [lk_rnH hm hi, q1], OR.back (w0 := ⟨w, Lent ρc⟩) hcr.bel.size (fun b _ hb => hB2 b hb) (fun b hb => hb.elim (fun h => Or.inl (Nat.le_trans hcr.bel.size h)) (fun h => (hLo b h).1)) q2⟩
      · rw [h2b j hj] at hu
        obtain ⟨ob, q1, q2⟩ := hcr.obj j u hu
        exact ⟨ob, by rw [lk_rnH_no hj]; exact q1, q2.mv hK hB3 (fun b hb => hc'.bel.blk b (q2.blk b hb).2 (hnoL j u b hj hu hb))⟩
    · have mix : ∀ i j j' u u', lk (mn ++ m) i = some j → (∀ i, lk (mn ++ m) i ≠ some j') → ρ' i = some u → ρ j' = some u' → vblk u = some b → vblk u' = some b → False := by
        intro i j j' u u' hi hj q1 q2 q3 q4
        obtain ⟨ob, _, ho⟩ := hc'.obj i u q1
        obtain ⟨ob', _, ho'⟩ := hcr.obj j' u' q2
        rcases (ho.blk b q3).1 with h5 | h5
        · exact absurd h5 (Nat.not_le_of_lt (ho'.blk b q4).2)
        · exact hnoL j' u' b hj q2 q4 h5
      rcases hcase j with ⟨i, hi⟩ | hj <;> rcases hcase j' with ⟨i', hi'⟩ | hj'
      · rw [h2a i j hi] at h1
        rw [h2a i' j' hi'] at h2
        have := hc'.dist i i' u u' b h1 h2 h3 h4
        subst this
        rw [hi] at hi'; cases hi'; rfl
      · rw [h2a i j hi] at h1
        rw [h2b j' hj'] at h2
        exact (mix i j j' u u' hi hj' h1 h2 h3 h4).elim
      · rw [h2b j hj] at h1
        rw [h2a i' j' hi'] at h2
        exact (mix i' j' j u' u hi' hj h2 h1 h4 h3).elim
      · rw [h2b j hj] at h1
        rw [h2b j' hj'] at h2
        exact hcr.dist j j' u u' b h1 h2 h3 h4
  have hs' : Slots ρ2 (Bd ρ2 B0) w' (killS ks kw s.sl) a := by
    intro t av ht
    obtain ⟨av', q1, rfl⟩ := lk_killS ht
    obtain ⟨u, q2, q3⟩ := hs t av' q1
    refine ⟨u, q2, ?_⟩
    unfold killA
    cases hi : avId av' with
    | none => exact AR.mv hK hB3 (fun k hk => by rw [on_id hk] at hi; cases hi) q3
    | some j =>
      simp only
      cases hkk : ks.any fun k => Nat.beq k j with
      | true =>
        rw [cond_true]
        cases hww : kw.any fun k => Nat.beq k j with
        | true =>
          obtain ⟨i, q4, q5⟩ := hkw.get _ (anyB hww)
          obtain ⟨y, hy⟩ := hal' i q5
          exact ⟨y, (h2a i j (hmm _ _ q4)).trans hy⟩
        | false => trivial
      | false =>
        rw [cond_false]
        refine AR.mv hK hB3 (fun k hk => ?_) q3
        rw [on_id hk] at hi
        cases hi
        obtain ⟨y, hy⟩ := avId_R (on_id hk) q3
        obtain ⟨ob, q4, q5⟩ := hcr.obj j y hy
        rcases hcase j with ⟨i, hi⟩ | hj
        · rcases hm2 i j hi with q6 | q6
          · rw [q6] at q4; cases q4
          · rcases hks.get _ (lk_mem q6) with q7 | ⟨x, b, q7, q8, q9⟩
            · simp only at q7; rw [hkk] at q7; cases q7
            · simp only at q7 q8 q9
              rw [q7] at q4; cases q4
              obtain ⟨d, q10⟩ := q9 r hp' hq
              obtain ⟨z, hz⟩ := hal' i q8
              obtain ⟨ob2, q11, q12⟩ := hc'.obj i z hz
              rw [q10] at q11; cases q11
              rw [h2a i j hi, hz, hy, q12.1, q5.1]
        · exact h2b j hj
  have hv' : AR ρ2 (Bd ρ2 B0) w' (r.rn (mn ++ m)) v := by
    have hK0 : Keep (Bd ρ' Bc) w' w' := ⟨Nat.le_refl _, fun _ _ _ => rfl⟩
    cases r with
    | d x => exact DR.mv hK0 (fun b _ hb => hB2 b hb) hv
    | tup xs => obtain ⟨cs, q1, q2⟩ := hv; exact ⟨cs, q1, q2.mv hK0 (fun b _ hb => hB2 b hb)⟩
    | ptr i off =>
      simp only [AV.rn]
      split
      · rename_i j hj; obtain ⟨g, q1, q2⟩ := hv; exact ⟨g, (h2a i j hj).trans q1, q2⟩
      · trivial
    | own i =>
      simp only [AV.rn]
      split
      · rename_i j hj; obtain ⟨q1, q2⟩ := hv; exact ⟨(h2a i j hj).trans q1, q2⟩
      · trivial
    | ptup i xs =>
      simp only [AV.rn]
      split
      · rename_i j hj; obtain ⟨g, q1, cs, q2, q3⟩ := hv; exact ⟨g, (h2a i j hj).trans q1, cs, q2, q3.mv hK0 (fun b _ hb => hB2 b hb)⟩
      · trivial
    | _ => trivial
  exact den_put (s := ⟨s.n, killS ks kw s.sl, rnH (mn ++ m) hp' ++ s.hp⟩) hcore hn hdf hs' hd hv'

/-! ### Names, witnesses, nil -/
section
variable {P : Program} {ops : Array Oper} {Q : Qs} {l : List Oper} {s : AS} {o : Oper}
theorem Core.name {ρ : Rho} {B0 : BS} {w0 : Wz} {w : World} {hp : List (Nat × AO)} {id : Nat} {ob : AO} (hc : Core ρ B0 w0 w hp) (h : lk hp id = some ob) : ∃ x, Core ρ B0 w0 w ((id, .is x ob) :: hp) := by
  cases hρ : ρ id with
  | none => exact ⟨undef, hc.bel, hc.b0, fun j v hj => by
      obtain ⟨ob', q1, q2⟩ := hc.obj j v hj
      have hne : id ≠ j := fun e => by subst e; rw [hρ] at hj; cases hj
      exact ⟨ob', by rw [lk_cons, if_neg hne]; exact q1, q2⟩, hc.dist⟩
  | some x => exact ⟨x, hc.bel, hc.b0, fun j v hj => by
      obtain ⟨ob', q1, q2⟩ := hc.obj j v hj
      by_cases e : id = j
      · subst e
        rw [h] at q1; cases q1
        rw [hρ] at hj; cases hj
        exact ⟨.is x ob, by rw [lk_cons, if_pos rfl], rfl, q2⟩
      · exact ⟨ob', by rw [lk_cons, if_neg e]; exact q1, q2⟩, hc.dist⟩
/-- An object gets a name. -/
theorem cNm {c : Code} (id : Nat) {ob : AO} (h : lk s.hp id = some ob) (k : ∀ x, AW P c Q ⟨s.n, s.sl, (id, .is x ob) :: s.hp⟩) : AW P c Q s := by
  rintro B0 w0 a w ⟨ρ, hc, hn, hdf, hs⟩
  obtain ⟨x, hx⟩ := hc.name h
  exact k x B0 w0 a w ⟨ρ, hx, hn, hdf, hs⟩
theorem mNm (id : Nat) {ob : AO} (h : lk s.hp id = some ob) (k : ∀ x, AL P ops Q l ⟨s.n, s.sl, (id, .is x ob) :: s.hp⟩) : AL P ops Q l s := by
  rintro B0 w0 a w ⟨ρ, hc, hn, hdf, hs⟩
  obtain ⟨x, hx⟩ := hc.name h
  exact k x B0 w0 a w ⟨ρ, hx, hn, hdf, hs⟩
/-- A value that has an object's name is that object. -/
theorem wkRaw (t tw id : Nat) {av : AV} {x : Value} {ob : AO} (h1 : lk s.sl t = some (.d (.one (.v x)))) (hw : lk s.sl tw = some av) (hi : avId av = some id) (h2 : lk s.hp id = some (.is x ob)) : Wk s ⟨s.n, (t, ob.un.av id) :: s.sl, s.hp⟩ := by
  rintro B0 w0 a w ⟨ρ, hc, hn, hdf, hs⟩
  obtain ⟨v, hv, e, _⟩ := hs t _ h1
  subst e
  obtain ⟨u, _, hu⟩ := hs tw _ hw
  obtain ⟨y, hy⟩ := avId_R hi hu
  obtain ⟨ob', q1, q2⟩ := hc.obj id y hy
  rw [h2] at q1; cases q1
  obtain ⟨e, q2⟩ := q2
  subst e
  exact ⟨ρ, hc, hn, hdf, slots_cons hs hv (AO.av_ok q2.un hy)⟩
/-- A slot that is not needed says that an object is there. -/
theorem wkWit (t tw id : Nat) {av av' : AV} (h1 : lk s.sl t = some av') (hw : lk s.sl tw = some av) (hi : avId av = some id) : Wk s ⟨s.n, (t, .wit id) :: s.sl, s.hp⟩ := by
  rintro B0 w0 a w ⟨ρ, hc, hn, hdf, hs⟩
  obtain ⟨v, hv, _⟩ := hs t _ h1
  obtain ⟨u, _, hu⟩ := hs tw _ hw
  exact ⟨ρ, hc, hn, hdf, slots_cons hs hv (avId_R hi hu)⟩
/-- A pointer to an object passes. -/
theorem xNilP {x : Operand} {id off : Nat} (hop : o.op = .nilCheck x) (hx : geto s x = some (.ptr id off)) : EvX P s o (.ptr id off) := by
  intro ρ B w a ho
  obtain ⟨g, h1, e1⟩ : AR ρ B w (.ptr id off) (a.eval x) := ho x (by rw [hop]; simp [Op.operands]) _ hx
  refine ⟨_, ?_, g, h1, rfl⟩
  unfold execOp
  rw [hop]
  simp only [e1]
  rfl
/-- An array's element. -/
theorem xIdx {t elem : TypeId} {te : TI} {len i : Nat} {x ix : Operand} {ls : List Lf} {k : IntKind} {d : DV} (hop : o.op = .index t x ix) (hu : P.underlying t = some (.array len elem)) (hte : tiOf P elem = some te) (hx : geto s x = some (.d (.agg ls))) (hi : geto s ix = some (.d (.one (.v (.int k ((i : Nat) : Int)))))) (hlt : i < len) (hp : partV te ls (i * te.n) = some d) : EvX P s o (.d d) := by
  intro ρ B w a ho
  obtain ⟨cs, hxe, hl⟩ : DR B w (.agg ls) (a.eval x) := ho x (by rw [hop]; simp [Op.operands]) _ hx
  have hie : a.eval ix = .int k ((i : Nat) : Int) := (ho ix (by rw [hop]; simp [Op.operands]) _ hi : LfR _ _ _ _).1
  obtain ⟨v, hr, hv⟩ := partV_ok (P := P) hte hp hl
  obtain ⟨inf, z, dd, h1, h2, h3, h4, _⟩ := ti_parts hte
  refine ⟨v, ?_, hv⟩
  unfold execOp
  rw [hop]
  refine run_value ?_
  rw [hxe, hie]
  have hz : 0 ≤ ((i : Nat) : Int) ∧ ((i : Nat) : Int) < (len : Int) := ⟨by omega, by omega⟩
  simp only [Instr.index, asIntOf, Sem.run_bind, Sem.run_pure, Result.andThen_ok, run_underlying hu, sizeOf, typeInfo, run_program, h1, h4]
  rw [if_pos hz]
  simpa [h1, h4] using hr
theorem wit_le {av : AV} {id : Nat} (hi : avId av = some id) : AV.le av (.wit id) := fun _ _ _ _ h => avId_R hi h

theorem run_equalIn_pn {P : Program} (w : World) (d : Nat) (t e : TypeId) (a : Addr) (hu : P.underlying t = some (.pointer e)) : (Op.equalIn (d + 1) t (.pointer (some a)) (.pointer none)).run P w = .ok false w := by
  simp [Op.equalIn, run_underlying hu]
theorem run_equal_pn {P : Program} (w : World) (t e : TypeId) (a : Addr) (hu : P.underlying t = some (.pointer e)) : (Op.equal t (.pointer (some a)) (.pointer none)).run P w = .ok false w := run_equalIn_pn w 9999 t e a hu
/-- A pointer to an object is not nil. -/
theorem xPn {x y : Operand} {op : BinOp} {t e : TypeId} {yt : TypeId} {id off : Nat} (b : Bool) (hop : o.op = .binOp op t x y yt) (hb : (op = .eql ∧ b = false) ∨ (op = .neq ∧ b = true)) (hu : P.underlying t = some (.pointer e)) (hx : geto s x = some (.ptr id off)) (hy : geto s y = some (.d (.one (.v (.pointer none))))) : EvX P s o (.d (.one (.v (.bool b)))) := by
  intro ρ B w a ho
  obtain ⟨g, h1, e1⟩ : AR ρ B w (.ptr id off) (a.eval x) := ho x (by rw [hop]; simp [Op.operands]) _ hx
  have e2 : a.eval y = .pointer none := (ho y (by rw [hop]; simp [Op.operands]) _ hy : LfR _ _ _ _).1
  refine ⟨.bool b, ?_, rfl, rfl⟩
  unfold execOp
  rw [hop]
  refine run_value ?_
  rw [e1, e2]
  have hg : (eqGuard op t x y (.pointer (some ⟨g, off, none⟩)) (.pointer none)).run P w = .ok () w := by cases op <;> rfl
  rw [Sem.run_bind, hg, Result.andThen_ok]
  rcases hb with ⟨rfl, rfl⟩ | ⟨rfl, rfl⟩ <;> simp [binOp, run_equal_pn w t e _ hu]
end

end Go.Proofs.Ytpnoklbijfmoaaa

/-
  THE ABSTRACT MACHINE: orders that come together again. No condition; nothing of the program.
-/
set_option linter.unusedVariables false
set_option linter.unusedSimpArgs false
namespace Go.Proofs.Ytpnoklbijfmoaaa
open Go.RowKit
section
variable {P : Program} {ops : Array Oper} {Q : Qs} {s : AS}
theorem anyCut {n : Nat} {listed : Array Bool} (n' : Nat) (listed' : Array Bool) (s' : AS) (h : AnyA P ops Q n' listed' s') (k : AnyA P ops Q n' listed' s' → AnyA P ops Q n listed s) : AnyA P ops Q n listed s := k h
theorem anyW {n : Nat} {listed : Array Bool} {s' : AS} {r : Nat} {rs : List Nat} (hr : Region.ready .any ops listed = r :: rs) (hw : Wk s s') (h : AnyA P ops Q (n + 1) listed s') : AnyA P ops Q (n + 1) listed s := by
  unfold AnyA
  unfold AnyA at h
  refine ⟨fun e => absurd (hr.symm.trans e) (by simp), fun i hi => ?_⟩
  obtain ⟨o, ho, hal⟩ := h.2 i hi
  exact ⟨o, ho, hal.wk hw⟩
end
end Go.Proofs.Ytpnoklbijfmoaaa

/-
  THE ABSTRACT MACHINE: TEXTS: one of their bytes, a part, the length, a text of bytes. No condition; nothing of the program.
-/
set_option linter.unusedVariables false
set_option linter.unusedSimpArgs false
namespace Go.Proofs.Ytpnoklbijfmoaaa
open Go.RowKit

/-- A text's byte. -/
def sb (b : ByteArray) (i : Nat) : Nat := (b.data[i]?.getD 0).toNat

section
variable {P : Program} {T : TypeId → Option TI} {ops : Array Oper} {Q : Qs} {o : Oper} {l : List Oper} {s : AS}

theorem mX (av : AV) (h : EvX P s o av) (k : AL P ops Q l (s.put o.dst av)) (hg : gst ops s o = some true := by rfl) (hd : dok o.dst s.n = true := by rfl) : AL P ops Q (o :: l) s := by
  rintro B0 w0 a w ⟨ρ, hc, hn, hdf, hs⟩
  obtain ⟨v, hr, hv⟩ := h ρ (Bd ρ B0) w a (fun x hx av' hg => geto_ok hs hg)
  exact wpl_value (gst_ok hg hs) hr (k B0 w0 _ w (den_put hc hn hdf hs hd hv))

theorem arV {ρ : Rho} {B : BS} {w : World} {x c : Value} (h : AR ρ B w (.d (.one (.v x))) c) : c = x := (show LfR B w (.v x) c from h).1
theorem ints2_x {ρ : Rho} {B : BS} {w : World} {a : Act} {x : Operand} {k : IntKind} {z : Int} (h : ints2 s x = some (k, z)) (hs : ∀ av', geto s x = some av' → AR ρ B w av' (a.eval x)) : a.eval x = .int k z := by
  unfold ints2 at h
  split at h
  · rename_i hx
    cases h
    exact arV (hs _ hx)
  · cases h

theorem xIx {t : TypeId} {x ix : Operand} {b : ByteArray} {k : IntKind} {z : Int} (hop : o.op = .index t x ix) (hu : P.underlying t = some .string) (hx : geto s x = some (.d (.one (.v (.string b))))) (hi : ints2 s ix = some (k, z)) (h0 : 0 ≤ z) (h1 : z < (b.size : Int)) : EvX P s o (.d (.one (.v (.int .u8 (sb b z.toNat : Int))))) := by
  intro ρ B w a ho
  have e1 : a.eval x = .string b := arV (ho x (by rw [hop]; simp [Op.operands]) _ hx)
  have e2 : a.eval ix = .int k z := ints2_x hi (ho ix (by rw [hop]; simp [Op.operands]))
  refine ⟨_, ?_, rfl, rfl⟩
  unfold execOp
  rw [hop]
  refine run_value ?_
  rw [e1, e2]
  have hlt : z.toNat < b.data.size := by have : b.data.size = b.size := rfl; omega
  have hb : b[z.toNat]? = some (b.data[z.toNat]'hlt) := by
    rw [getElem?_pos b z.toNat (by exact hlt)]; rfl
  simp only [Instr.index, asIntOf, Sem.run_bind, Sem.run_pure, Result.andThen_ok, run_underlying hu, if_pos h0, hb]
  unfold sb
  rw [Array.getElem?_eq_getElem hlt]
  rfl

theorem bnd_x {ρ : Rho} {B : BS} {w : World} {a : Act} {x : Operand} {d r y : Nat} {code : BoundsCode} (h : bndV s (some x) d = some r) (hy : r ≤ y) (hs : ∀ av', geto s x = some av' → AR ρ B w av' (a.eval x)) : (Instr.sliceBound (a.eval x) y code).run P w = .ok r w := by
  unfold bndV at h
  simp only at h
  split at h
  · rename_i k z hx
    split at h
    · rename_i hz
      cases h
      have he := ints2_x hx hs
      have hzy : 0 ≤ z ∧ z ≤ (y : Int) := ⟨hz, by omega⟩
      simp [Instr.sliceBound, he, asIntOf, hzy]
    · cases h
  · cases h

theorem xSl {t : TypeId} {x : Operand} {lo hi : Option Operand} {b : ByteArray} {l' h' : Nat} (hop : o.op = .slice t x lo hi none) (hu : P.underlying t = some .string) (hx : geto s x = some (.d (.one (.v (.string b))))) (hlo : bndV s lo 0 = some l') (hhi : bndV s hi b.size = some h') (h1 : l' ≤ h') (h2 : h' ≤ b.size) : EvX P s o (.d (.one (.v (.string (b.extract l' h'))))) := by
  intro ρ B w a ho
  have e1 : a.eval x = .string b := arV (ho x (by rw [hop]; cases lo <;> cases hi <;> simp [Op.operands]) _ hx)
  refine ⟨_, ?_, rfl, rfl⟩
  unfold execOp
  rw [hop]
  refine run_value ?_
  have hb : (Instr.sliceBounds false b.size b.size (lo.map a.eval) (hi.map a.eval) none).run P w = .ok (l', h', b.size) w := by
    have g1 : ∀ y, hi = some y → (Instr.sliceBound (a.eval y) b.size .sliceAlen).run P w = .ok h' w := fun y hy => bnd_x (by rw [← hy]; exact hhi) h2 (ho y (by rw [hop, hy]; cases lo <;> simp [Op.operands]))
    have g2 : ∀ y, lo = some y → (Instr.sliceBound (a.eval y) h' .sliceB).run P w = .ok l' w := fun y hy => bnd_x (by rw [← hy]; exact hlo) h1 (ho y (by rw [hop, hy]; cases hi <;> simp [Op.operands]))
    cases hi with
    | none =>
      have : b.size = h' := by simpa [bndV] using hhi
      subst this
      cases lo with
      | none =>
        have : 0 = l' := by simpa [bndV] using hlo
        subst this
        simp [Instr.sliceBounds]
      | some y => simp [Instr.sliceBounds, g2 y rfl]
    | some y' =>
      cases lo with
      | none =>
        have : 0 = l' := by simpa [bndV] using hlo
        subst this
        simp [Instr.sliceBounds, g1 y' rfl]
      | some y => simp [Instr.sliceBounds, g1 y' rfl, g2 y rfl]
  rw [e1]
  simp only [Instr.sliceAt, Instr.slice, Sem.run_bind, run_underlying hu, Result.andThen_ok, Option.map_none, Option.isSome_none, Bool.false_eq_true, if_false, hb, Sem.run_pure]

theorem xLen {c : Call} {t : TypeId} {x : Operand} {b : ByteArray} (hop : o.op = .call c) (hc : c.callee = .builtin .len) (ha : c.args.toList = [x]) (ht : c.argTypes[0]? = some t) (hu : P.underlying t = some .string) (hx : geto s x = some (.d (.one (.v (.string b))))) : EvX P s o (.d (.one (.v (.int .i64 (b.size : Int))))) := by
  intro ρ B w a ho
  have e1 : a.eval x = .string b := arV (ho x (by
    rw [hop]
    have : x ∈ c.args := by rw [← Array.mem_toList_iff, ha]; simp
    simp only [Op.operands, Call.operands]
    exact Array.mem_append.2 (Or.inr this)) _ hx)
  have ha' : c.args = #[x] := by rw [← Array.toList_inj]; simpa using ha
  refine ⟨_, ?_, rfl, rfl⟩
  unfold execOp
  rw [hop]
  simp [resolve, hc, ha', invoke, builtin, Builtin.len_, ht, e1, run_underlying hu, goInt]

/-- A text of bytes. -/
theorem xStr {src dst e : TypeId} {x : Operand} {n : Nat} {el : Nat → Nat → Lf} (b : ByteArray) (hop : o.op = .convert src dst x) (hs : P.underlying src = some (.slice e)) (he : P.underlying e = some (.int .u8)) (hd : P.underlying dst = some .string) (hx : geto s x = some (.d (.one (.row 1 n el)))) (hn : b.size = n) (hel : ∀ i, i < n → el i 0 = .v (.int .u8 (sb b i : Int))) : EvX P s o (.d (.one (.v (.string b)))) := by
  intro ρ B w a ho
  obtain ⟨ad, cap, e1, hle, hnone, hcell⟩ := (show LfR B w (.row 1 n el) (a.eval x) from ho x (by rw [hop]; simp [Op.operands]) _ hx)
  refine ⟨_, ?_, rfl, rfl⟩
  unfold execOp
  rw [hop]
  refine run_value ?_
  rw [e1]
  have hsz : b.data.size = n := hn
  cases ad with
  | none =>
    have hc0 := hnone rfl
    have hn0 : n = 0 := by omega
    subst hn0
    have hb : b = .empty := by
      have : b.data = #[] := Array.eq_empty_of_size_eq_zero hsz
      cases b; simp at this; subst this; rfl
    rw [hb]
    simp [convert, run_underlying hs, run_underlying he, run_underlying hd, Conv.bytesToString]
  | some ad =>
    have hcells : (loadCells ad n).run P w = .ok ((b.data.toList.map fun c => (c.toNat : Int)).map (Value.int .u8)).toArray w := by
      have hl : ((b.data.toList.map fun c => (c.toNat : Int)).map (Value.int .u8)).length = n := by simpa using hsz
      have := run_loadCells_list (P := P) (w := w) ad ((b.data.toList.map fun c => (c.toNat : Int)).map (Value.int .u8)) (fun j v hv => by
        have hj : j < n := by have := (List.getElem?_eq_some_iff.1 hv).1; omega
        obtain ⟨bb, off, e2, _, _, hq⟩ := hcell j hj
        cases e2
        obtain ⟨y, hy, hly⟩ := hq 0 (by decide)
        rw [hel j hj] at hly
        obtain rfl := hly.1
        rw [add_lit]
        rw [Nat.mul_one, Nat.add_zero] at hy
        rw [hy]
        have hjs : j < b.data.size := by omega
        rw [List.getElem?_map, List.getElem?_map, Array.getElem?_toList, Array.getElem?_eq_getElem hjs] at hv
        unfold sb
        rw [Array.getElem?_eq_getElem hjs]
        simpa using hv)
      rw [hl] at this
      exact this
    have hr := run_bytesToString (P := P) w ad n cap _ hcells
    have hb : (b.data.toList.map fun c => (c.toNat : Int)).foldl (fun r n => r.push (UInt8.ofNat n.toNat)) ByteArray.empty = b := by
      have key : ∀ (l : List UInt8) (r : ByteArray), (l.map fun c => (c.toNat : Int)).foldl (fun r n => r.push (UInt8.ofNat n.toNat)) r = ⟨r.data ++ l.toArray⟩ := by
        intro l
        induction l with
        | nil => intro r; simp
        | cons c l ih =>
          intro r
          rw [List.map_cons, List.foldl_cons, ih]
          simp [ByteArray.push]
      rw [key]
      obtain ⟨d⟩ := b
      show (⟨#[] ++ d.toList.toArray⟩ : ByteArray) = ⟨d⟩
      simp
    rw [hb] at hr
    simp only [convert, Sem.run_bind, run_underlying hs, run_underlying he, run_underlying hd, Result.andThen_ok]
    exact hr
end
end Go.Proofs.Ytpnoklbijfmoaaa

/-
  TABLES: arrays of rows; when a curve's numbers are short; rows of points. No condition; nothing of the program.
-/
set_option linter.unusedVariables false
set_option linter.unusedSimpArgs false
namespace Go.Proofs.Ytpnoklbijfmoaaa
open Go.RowKit

section
variable {P : Program} {s : AS} {o : Oper}
/-- An array of three cells. -/
theorem xArr3 {T : TypeId → Option TI} (hT : TOk P T) {t elem : TypeId} {ti te : TI} {x y z : Operand} {parts : Array (Nat × Operand)} {lx ly lz : Lf} {u0 u1 u2 : Value} (hop : o.op = .build t parts) (hp : parts.toList = [(0, x), (1, y), (2, z)]) (hu : P.underlying t = some (.array 3 elem)) (hti : T t = some ti) (hz : ti.zero = [u0, u1, u2]) (hte : T elem = some te) (hn : te.n = 1)
    (hx : geto s x = some (.d (.one lx))) (hy : geto s y = some (.d (.one ly))) (hzz : geto s z = some (.d (.one lz))) : EvX P s o (.d (.agg [lx, ly, lz])) := by
  intro ρ B w a ho
  have hmem : ∀ q ∈ parts.toList, q.2 ∈ o.op.operands := fun q hq => by rw [hop]; simp only [Op.operands, List.mem_toArray, List.mem_map]; exact ⟨q, hq, rfl⟩
  have ax : LfR B w lx (a.eval x) := ho x (hmem (0, x) (by rw [hp]; simp)) _ hx
  have ay : LfR B w ly (a.eval y) := ho y (hmem (1, y) (by rw [hp]; simp)) _ hy
  have az : LfR B w lz (a.eval z) := ho z (hmem (2, z) (by rw [hp]; simp)) _ hzz
  obtain ⟨i, zv, dd, h1, h2, h3, h4, h5, _, _, _, _, _, _, hall⟩ := ti_parts (hT _ _ hti)
  obtain ⟨i', zv', dd', k1, k2, k3, k4, _⟩ := ti_parts (hT _ _ hte)
  have one : ∀ {l : Lf} {c : Value}, LfR B w l c → ∃ xs : List Value, c.cells = xs.toArray ∧ LsR B w [l] xs := fun {l c} h => DR.cells (d := .one l) h
  have hone : ∀ c ∈ ti.zero, c.oneCell' = true := hall
  obtain ⟨rs, hfill, hrs⟩ := fillL_ok (B := B) (w := w) (fun i => some (i * 1, 1)) [(0, [lx]), (1, [ly]), (2, [lz])] [(0, a.eval x), (1, a.eval y), (2, a.eval z)] (ti.zero.map Lf.v) [lx, ly, lz] ti.zero (LsR.vs hone) (by rw [hz]; rfl) rfl (fun k p v hp hv => by
    match k, hp, hv with
    | 0, hp, hv => cases hp; cases hv; exact ⟨rfl, one ax⟩
    | 1, hp, hv => cases hp; cases hv; exact ⟨rfl, one ay⟩
    | 2, hp, hv => cases hp; cases hv; exact ⟨rfl, one az⟩
    | k + 3, hp, hv => simp at hp)
  refine ⟨.agg rs.toArray, ?_, rs, rfl, hrs⟩
  unfold execOp
  rw [hop]
  refine run_value ?_
  have hzc : zv.cells = ti.zero.toArray := by rw [← h5]
  have hm : (parts.map fun x : Nat × Operand => match x with | (i, x) => (i, a.eval x)).toList = [(0, a.eval x), (1, a.eval y), (2, a.eval z)] := by
    rw [Array.toList_map, hp]; rfl
  have hn' : i'.size = 1 := k4.trans hn
  unfold Instr.build
  simp only [Sem.run_bind, zeroValue, typeInfo, run_program, Result.andThen_ok, h1, h2, Sem.run_pure, run_underlying hu, hzc, sizeOf, k1, hm, hn']
  rw [hfill]
  rfl
end

/-- A row of one number. -/
theorem le_d1 {K : Nat} {z : Int} : AV.le (.d (.one (.row 2 1 (fun i' j' => ((zn K z)[i' * 2 + j']?).getD (.v undef))))) (.d (.one (.row 2 1 (zel K fun _ => z)))) := le_one (row_le fun i hi j hj B w v hv => by
  obtain rfl : i = 0 := by omega
  have : (0 * 2 + j) = j := by omega
  rw [this] at hv
  exact hv)

/-! ### Short numbers -/
def sN (n m : Nat) (p q : Nat → Rat) (i : Nat) : Nat := if i = 0 then dg p n else if i = 1 then dg q m else 1
def sC (n m : Nat) (p q : Nat → Rat) (i : Nat) : Nat → Int := if i = 0 then cX (crL n m p q) p else if i = 1 then cX (crL n m p q) q else fun _ => ((crL n m p q : Nat) : Int)
def smC (n m : Nat) (p q : Nat → Rat) : Prop := ∀ i, i < 3 → ∀ j, j < sN n m p q i → (limbs (sC n m p q i j).natAbs).length ≤ 4
theorem sN_le {n m : Nat} {p q : Nat → Rat} (hn : n ≤ 1000) (hm : m ≤ 1000) (i : Nat) : sN n m p q i ≤ 1000 := by
  have h1 := dg_le p n
  have h2 := dg_le q m
  unfold sN
  split
  · omega
  · split <;> omega

/-! ### Points -/
def pts (K n m : Nat) (p q : Nat → Nat → Rat) (ids : Nat → Int) : Nat → Nat → Lf := fun i j => ((crv K n m (p i) (q i) ++ [.v (.int .i64 (ids i))])[j]?).getD (.v undef)
theorem pts_pt {K n m : Nat} {p q : Nat → Nat → Rat} {ids : Nat → Int} {i : Nat} : [pts K n m p q ids i 0, pts K n m p q ids i 1, pts K n m p q ids i 2, pts K n m p q ids i 3, pts K n m p q ids i 4] = crv K n m (p i) (q i) ++ [.v (.int .i64 (ids i))] := rfl
theorem ls_pt {a b a' b' d1 d2 e1 e2 i : Lf} (ha : ∀ B w v, LfR B w a v → LfR B w a' v) (hb : ∀ B w v, LfR B w b v → LfR B w b' v) (hd : ∀ B w cs, LsR B w [d1, d2] cs → LsR B w [e1, e2] cs) : ∀ B w cs, LsR B w [a, b, d1, d2, i] cs → LsR B w [a', b', e1, e2, i] cs
  | B, w, [c1, c2, c3, c4, c5], ⟨h1, h2, h3, h4, h5⟩ => by
    obtain ⟨k3, k4, _⟩ := hd B w [c3, c4] ⟨h3, h4, trivial⟩
    exact ⟨ha _ _ _ h1, hb _ _ _ h2, k3, k4, h5⟩

def snoc {α : Type} (f : Nat → α) (N : Nat) (v : α) : Nat → α := fun i => if i = N then v else f i
theorem snoc_at {α : Type} {f : Nat → α} {N : Nat} {v : α} : snoc f N v N = v := if_pos rfl
theorem snoc_ne {α : Type} {f : Nat → α} {N i : Nat} {v : α} (h : i ≠ N) : snoc f N v i = f i := if_neg h
theorem le_crvi {K n m n' m' : Nat} {p q : Nat → Rat} {i : Lf} (zp : ∀ i, n ≤ i → p i = 0) (zq : ∀ i, m ≤ i → q i = 0) (zp' : ∀ i, n' ≤ i → p i = 0) (zq' : ∀ i, m' ≤ i → q i = 0) : AV.le (.d (.agg (crv K n m p q ++ [i]))) (.d (.agg (crv K n' m' p q ++ [i]))) := by
  refine le_agg fun B w cs h => ?_
  have h1 : LsR B w (crv K n m p q) (cs.take 4) := h.take 4
  have h2 : LsR B w [i] (cs.drop 4) := h.drop 4
  obtain ⟨cs', e, h3⟩ : DR B w (.agg (crv K n' m' p q)) (.agg (cs.take 4).toArray) := le_crv (Nat.le_refl K) zp zq zp' zq' (fun _ => rfl) (fun _ => rfl) (fun _ => none) B w _ (show DR B w (.agg (crv K n m p q)) _ from ⟨_, rfl, h1⟩)
  have e' : cs.take 4 = cs' := by simpa using e
  subst e'
  have := h3.app h2
  rwa [List.take_append_drop] at this
theorem apL {n i j : Nat} {el el2 : Nat → Nat → Lf} (h : i < n) : appEl n el el2 i j = el i j := by
  unfold appEl
  rw [show Nat.ble (i + 1) n = true from Nat.ble_eq_true_of_le h]; rfl
theorem apR {n i j : Nat} {el el2 : Nat → Nat → Lf} (h : n ≤ i) : appEl n el el2 i j = el2 (i - n) j := by
  unfold appEl
  rw [show Nat.ble (i + 1) n = false from by rw [← Bool.not_eq_true]; exact fun e => by have := Nat.le_of_ble_eq_true e; omega]; rfl
theorem le_snoc {K n m N : Nat} {p q : Nat → Nat → Rat} {u v : Nat → Rat} {ids : Nat → Int} {id : Int} : AV.le (.d (.one (.row 5 (N + 1 + (N - N)) (appEl (N + 1) (appEl N (pts K n m p q ids) (fun i' j' => ((crv K n m u v ++ [.v (.int .i64 id)])[i' * 5 + j']?).getD (.v undef))) (fun i' j' => pts K n m p q ids (N + i') j'))))) (.d (.one (.row 5 (N + 1) (pts K n m (snoc p N u) (snoc q N v) (snoc ids N id))))) := by
  rw [show N + 1 + (N - N) = N + 1 by omega]
  refine le_one (row_le fun i hi j hj B w x hx => ?_)
  by_cases e : i = N
  · subst e
    have h1 : appEl (i + 1) (appEl i (pts K n m p q ids) (fun i' j' => ((crv K n m u v ++ [.v (.int .i64 id)])[i' * 5 + j']?).getD (.v undef))) (fun i' j' => pts K n m p q ids (i + i') j') i j = ((crv K n m u v ++ [.v (.int .i64 id)])[j]?).getD (.v undef) := by
      rw [apL (by omega), apR (Nat.le_refl _), show (i - i) * 5 + j = j by omega]
    rw [h1] at hx
    unfold pts
    rw [snoc_at, snoc_at, snoc_at]
    exact hx
  · have h1 : appEl (N + 1) (appEl N (pts K n m p q ids) (fun i' j' => ((crv K n m u v ++ [.v (.int .i64 id)])[i' * 5 + j']?).getD (.v undef))) (fun i' j' => pts K n m p q ids (N + i') j') i j = pts K n m p q ids i j := by
      rw [apL (by omega), apL (by omega)]
    rw [h1] at hx
    unfold pts
    rw [snoc_ne e, snoc_ne e, snoc_ne e]
    exact hx

section
variable {T : TypeId → Option TI} {s : AS} {t e : TypeId} {ti te : TI} {x : Operand} {k : IntKind} {z : Nat} {sz n : Nat} {el : Nat → Nat → Lf}
/-- All of a row from z on. -/
theorem slF {lo : Operand} (h1 : T t = some ti) (h2 : ti.elem = some e) (h3 : T e = some te) (h4 : ints2 s lo = some (k, ((z : Nat) : Int))) (h5 : geto s x = some (.d (.one (.row sz n el)))) (h6 : Nat.beq sz te.n = true) (hz : z ≤ n) : evV T s (.slice t x (some lo) none none) = some (.d (.one (.row sz (n - z) fun i' j' => el (z + i') j'))) := by
  have h6' := Nat.eq_of_beq_eq_true h6
  have hz' : (0 : Int) ≤ ((z : Nat) : Int) := by omega
  simp only [evV, h1, h2, h3, h5, bndV, h4, if_pos hz']
  rw [if_pos ⟨h6', by simpa using hz, Nat.le_refl _⟩]
  simp [one]
end

end Go.Proofs.Ytpnoklbijfmoaaa

/-
  TABLES, by the machine (1): Still, fresh, small, may, New, at, Len.
-/
set_option linter.unusedVariables false
set_option linter.unusedSimpArgs false
namespace Go.Proofs.Ytpnoklbijfmoaaa
open Go.RowKit

theorem isi_one {x : Int} {el : Nat → Nat → Lf} (h : el 0 0 = .v (.int .i64 x) := by rfl) : IsI (.row 1 1 el) 1 (fun i => if i = 0 then x else 0) := by
  refine ⟨row_le fun i hi j hj B w v hv => ?_, fun i hi => if_neg (by omega)⟩
  obtain rfl : i = 0 := by omega
  obtain rfl : j = 0 := by omega
  rw [h] at hv
  exact hv
set_option maxRecDepth 100000 in
set_option maxHeartbeats 4000000 in
theorem aCStill {x y : Int} (h1 : -9223372036854775808 ≤ x) (h2 : x ≤ 9223372036854775807) (h3 : -9223372036854775808 ≤ y) (h4 : y ≤ 9223372036854775807) : ACall Try.prog 5 [.one (.v (.int .i64 x)), .one (.v (.int .i64 y))] (.d (.agg (crv 3 1 1 (rc (fun i => if i = 0 then x else 0)) (rc (fun i => if i = 0 then y else 0))))) := by
  have hdx := dg_le (fun i => if i = 0 then x else 0) 1
  have hdy := dg_le (fun i => if i = 0 then y else 0) 1
  refine acallN hTT 12 [.cell 4 30] Try.func5 rfl rfl rfl rfl rfl ?_
  refine cSeq ?_
  refine cReg ?_
  refine mN hTT (.box 30 ([.v (.slice none 0 0), .v (.slice none 0 0), .v (.bool false), .v (.slice none 0 0)])) rfl rfl rfl ?_
  refine mNil ?_
  refine tN ?_
  refine cSeq ?_
  refine cReg ?_
  refine mV hTT _ rfl ?_
  refine mB hTT (.d (.one (.row 1 1 (fun i' j' => (([.v (.int .i64 x)])[i' * 1 + j']?).getD (.v undef))))) rfl ?_
  refine mC0 (aPOf (isi_one (x := x)) (fun i hi => by rw [if_pos (show i = 0 by omega)]; exact ⟨h1, h2⟩) (by omega)) rfl rfl rfl ?_
  refine mV hTT _ rfl ?_
  refine mB hTT (.d (.one (.row 1 1 (fun i' j' => (([.v (.int .i64 y)])[i' * 1 + j']?).getD (.v undef))))) rfl ?_
  refine mC0 (aPOf (isi_one (x := y)) (fun i hi => by rw [if_pos (show i = 0 by omega)]; exact ⟨h3, h4⟩) (by omega)) rfl rfl rfl ?_
  refine mC0 (aCOf (isp (K := 2) (c := (fun i => if i = 0 then x else 0)) (dg_z (fun i hi => if_neg (by omega)))) (isp (K := 2) (c := (fun i => if i = 0 then y else 0)) (dg_z (fun i hi => if_neg (by omega)))) (M := 3) (by omega) (by omega) (by decide) (by decide)) rfl rfl rfl ?_
  refine mS hTT 4 (.box 30 (crv 3 (dg (fun i => if i = 0 then x else 0) 1) (dg (fun i => if i = 0 then y else 0) 1) (rc (fun i => if i = 0 then x else 0)) (rc (fun i => if i = 0 then y else 0)))) rfl ?_
  refine mNil ?_
  refine tN ?_
  refine cRet ?_
  exact rQ rfl (le_crv (Nat.le_refl _) (rc_z (dg_z (fun i hi => if_neg (by omega)))) (rc_z (dg_z (fun i hi => if_neg (by omega)))) (rc_z (fun i hi => if_neg (by omega))) (rc_z (fun i hi => if_neg (by omega))) (fun _ => rfl) (fun _ => rfl))

set_option maxRecDepth 100000 in
set_option maxHeartbeats 4000000 in
theorem aTFresh {a b d1 d2 i : Lf} {K M n0 m0 n m : Nat} {x y : Nat → Int} {D : Int} (ha : IsP a K n0 x) (hb : IsP b K m0 y) (hd : IsZ [d1, d2] K D) (hD : D ≠ 0) (hn : n0 ≤ 1000) (hm : m0 ≤ 1000) (zx : ∀ i, n ≤ i → x i = 0) (zy : ∀ i, m ≤ i → y i = 0) (hM : max K 2 + 1 = M) (hMM : M ≤ 10000000) : ACall Try.prog 12 [.agg [a, b, d1, d2, i]] (.d (.agg (crv M n m (ov D x) (ov D y) ++ [i]))) := by
  subst hM
  obtain ⟨⟨fa, ha, ea⟩, za⟩ := ha
  obtain ⟨⟨fb, hb, eb⟩, zb⟩ := hb
  obtain ⟨s, xs, hd, hy0⟩ := hd
  refine ACall.le (dl (dle (le_agg (ls_pt ha hb hd))) dl0) AV.le.rfl ?_
  refine acallN hTT 24 [.cell 2 38] Try.func12 rfl rfl rfl rfl rfl ?_
  refine cSeq ?_
  refine cReg ?_
  refine mN hTT (.box 38 ([.row 2 n0 (ael K fa)] ++ [.row 2 m0 (ael K fb)] ++ [.v (.bool s), lr K xs] ++ [i])) rfl rfl rfl ?_
  refine mN hTT (.box 38 ([.v (.slice none 0 0), .v (.slice none 0 0), .v (.bool false), .v (.slice none 0 0), .v (.int .i64 0)])) rfl rfl rfl ?_
  refine mNil ?_
  refine tN ?_
  refine cSeq ?_
  refine cReg ?_
  refine mV hTT (.ptr 1 0) rfl ?_
  refine mV hTT (.ptr 1 2) rfl ?_
  refine mV hTT (.d (.agg ([.v (.bool s), lr K xs]))) rfl ?_
  refine mN hTT (.box 28 ([.v (.bool false), .v (.slice none 0 0)])) rfl rfl rfl ?_
  refine mS hTT 3 (.box 28 ([.v (.bool s), lr K xs])) rfl ?_
  refine mNil ?_
  refine tN ?_
  refine cSeq ?_
  refine cSeq ?_
  refine cReg ?_
  refine mV hTT (.d (.agg ([.v (.bool s), lr K xs]))) rfl ?_
  refine mC0 (aNorm ⟨s, xs, fun _ _ _ h => h, hy0⟩ (by omega)) rfl rfl rfl ?_
  refine mC0 (aZero (isn K D)) rfl rfl rfl ?_
  refine mNil ?_
  refine tN ?_
  refine cView 9 (.d (.one (.v (.bool false)))) rfl (le_bool (decide_eq_false hD)) ?_
  refine cF rfl ?_
  refine cSkip ?_
  refine tN ?_
  refine cSeq ?_
  refine cReg ?_
  refine mV hTT (.ptr 1 0) rfl ?_
  refine mV hTT (.ptr 1 0) rfl ?_
  refine mV hTT (.d (.one (.row 2 n0 (ael K fa)))) rfl ?_
  refine mV hTT (.ptr 1 0) rfl ?_
  refine mV hTT (.ptr 1 1) rfl ?_
  refine mV hTT (.d (.one (.row 2 m0 (ael K fb)))) rfl ?_
  refine mV hTT (.d (.agg ([.v (.bool s), lr K xs]))) rfl ?_
  refine mC0 (aCMake (⟨⟨fa, fun _ _ _ h => h, ea⟩, za⟩ : IsP (arow K n0 fa) K n0 x) (⟨⟨fb, fun _ _ _ h => h, eb⟩, zb⟩ : IsP (arow K m0 fb) K m0 y) ⟨s, xs, fun _ _ _ h => h, hy0⟩ (M := (max K 2 + 1)) hD (by omega) (by omega) (by omega) (by omega)) rfl rfl rfl ?_
  refine mV hTT _ rfl ?_
  refine mV hTT _ rfl ?_
  refine mV hTT _ rfl ?_
  refine mV hTT (.ptr 1 0) rfl ?_
  refine mS hTT 1 (.box 38 (crv (max K 2 + 1) n0 m0 (ov D x) (ov D y) ++ [i])) rfl ?_
  refine mNil ?_
  refine tN ?_
  refine cSeq ?_
  refine cReg ?_
  refine mV hTT (.d (.agg (crv (max K 2 + 1) n0 m0 (ov D x) (ov D y) ++ [i]))) rfl ?_
  refine mS hTT 2 (.box 38 (crv (max K 2 + 1) n0 m0 (ov D x) (ov D y) ++ [i])) rfl ?_
  refine mNil ?_
  refine tN ?_
  refine cRet ?_
  exact rQ rfl (le_crvi (ov_zz hD za) (ov_zz hD zb) (ov_zz hD zx) (ov_zz hD zy))

set_option maxRecDepth 100000 in
set_option maxHeartbeats 4000000 in
theorem aTSmall {K n m : Nat} {p q : Nat → Rat} {b : Bool} (hb : b = true ↔ smC n m p q) (zp : ∀ i, n ≤ i → p i = 0) (zq : ∀ i, m ≤ i → q i = 0) (hn : n ≤ 1000) (hm : m ≤ 1000) : ACall Try.prog 23 [.agg (crv K n m p q)] (.d (.one (.v (.bool b)))) := by
  refine acallN hTT 30 [.tmp 2] Try.func23 rfl rfl rfl rfl rfl ?_
  refine cSeq ?_
  refine cReg ?_
  refine mN hTT (.box 30 (crv K n m p q)) rfl rfl rfl ?_
  refine mV hTT _ rfl ?_
  refine mNil ?_
  refine tN ?_
  refine cSeq ?_
  refine cSeq ?_
  refine cReg ?_
  refine mV hTT (.ptr 1 0) rfl ?_
  refine mV hTT (.d (.one (.row 2 (dg p n) (zel K (cX (crL n m p q) p))))) rfl ?_
  refine mV hTT (.ptr 1 1) rfl ?_
  refine mV hTT (.d (.one (.row 2 (dg q m) (zel K (cX (crL n m p q) q))))) rfl ?_
  refine mV hTT (.ptr 1 2) rfl ?_
  refine mV hTT (.d (.agg (zn K ((crL n m p q) : Int)))) rfl ?_
  refine mB hTT (.d (.one (.row 2 1 (fun i' j' => ((zn K ((crL n m p q) : Int))[i' * 2 + j']?).getD (.v undef))))) rfl ?_
  refine mView 13 (.d (.one (.row 2 1 (zel K (fun _ => ((crL n m p q : Nat) : Int)))))) rfl (le_d1) ?_
  refine mX (.d (.agg [.row 2 (dg p n) (zel K (cX (crL n m p q) p)), .row 2 (dg q m) (zel K (cX (crL n m p q) q)), .row 2 1 (zel K (fun _ => ((crL n m p q : Nat) : Int)))])) (xArr3 hTT rfl rfl Try.underlying68 rfl rfl rfl rfl rfl rfl rfl) ?_
  refine mV hTT _ rfl ?_
  refine mNil ?_
  refine tN ?_
  refine cBlock ?_
  refine cLoop (ι := Nat) (fun (i : Nat) => ⟨30, [(2, .d (.one (.v (.bool false)))), (14, .d (.agg ([.row 2 (dg p n) (zel K (cX (crL n m p q) p)), .row 2 (dg q m) (zel K (cX (crL n m p q) q)), .row 2 1 (zel K (fun _ => ((crL n m p q : Nat) : Int)))]))), (15, .d (.one (.v (.int .i64 ((i : Nat) : Int)))))], []⟩) (fun (i : Nat) => i ≤ 3 ∧ ∀ i', i' < i → ∀ j, j < sN n m p q i' → (limbs (sC n m p q i' j).natAbs).length ≤ 4) (fun (i : Nat) => 3 - i) 0 (⟨Nat.zero_le _, fun i' hi' => absurd hi' (Nat.not_lt_zero _)⟩) (wk (sl := [(2, .d (.one (.v (.bool false)))), (14, .d (.agg ([.row 2 (dg p n) (zel K (cX (crL n m p q) p)), .row 2 (dg q m) (zel K (cX (crL n m p q) q)), .row 2 1 (zel K (fun _ => ((crL n m p q : Nat) : Int)))]))), (15, .d (.one (.v (.int .i64 ((0 : Nat) : Int)))))]) (hp := []) rfl ⟨hs rfl, hs rfl, hs rfl, trivial⟩ trivial rfl) ?_
  rintro i hI
  have hi : i ≤ 3 ∧ ∀ i', i' < i → ∀ j, j < sN n m p q i' → (limbs (sC n m p q i' j).natAbs).length ≤ 4 := hI
  show AW Try.prog _ _ ⟨30, [(2, .d (.one (.v (.bool false)))), (14, .d (.agg ([.row 2 (dg p n) (zel K (cX (crL n m p q) p)), .row 2 (dg q m) (zel K (cX (crL n m p q) q)), .row 2 1 (zel K (fun _ => ((crL n m p q : Nat) : Int)))]))), (15, .d (.one (.v (.int .i64 ((i : Nat) : Int)))))], []⟩
  refine cSeq ?_
  refine cReg ?_
  refine mV hTT (.d (.one (.v (.bool (decide (((i : Nat) : Int) < 3)))))) rfl ?_
  refine mNil ?_
  refine tN ?_
  refine cSeq ?_
  refine cCond rfl (fun hc1 => ?_) (fun hc1 => ?_)
  · skip
    refine cSkip ?_
    refine tN ?_
    refine cSeq ?_
    refine cBlock ?_
    refine cSeq ?_
    have hi3 : i < 3 := by have h0 := of_decide_eq_true hc1; omega
    have hns := sN_le (p := p) (q := q) hn hm i
    refine cReg ?_
    refine mX (.d (.one (.row 2 (sN n m p q i) (zel K (sC n m p q i))))) (xIdx (i := i) rfl Try.underlying68 (hTT _ _ rfl) rfl rfl hi3 (by have hi4 : i = 0 ∨ i = 1 ∨ i = 2 := (by omega); rcases hi4 with rfl | rfl | rfl <;> rfl)) ?_
    refine mV hTT _ rfl ?_
    refine mNil ?_
    refine tN ?_
    refine cSeq ?_
    refine cReg ?_
    refine mV hTT _ rfl ?_
    refine mV hTT (.d (.one (.v (.int .i64 ((sN n m p q i : Nat) : Int))))) rfl ?_
    refine mV hTT _ rfl ?_
    refine mNil ?_
    refine tN ?_
    refine cBlock ?_
    refine cLoop (ι := Nat) (fun (j : Nat) => ⟨30, [(2, .d (.one (.v (.bool false)))), (14, .d (.agg ([.row 2 (dg p n) (zel K (cX (crL n m p q) p)), .row 2 (dg q m) (zel K (cX (crL n m p q) q)), .row 2 1 (zel K (fun _ => ((crL n m p q : Nat) : Int)))]))), (15, .d (.one (.v (.int .i64 ((i : Nat) : Int))))), (18, .d (.one (.row 2 (sN n m p q i) (zel K (sC n m p q i))))), (19, .d (.one (.v (.int .i64 ((sN n m p q i : Nat) : Int))))), (20, .d (.one (.v (.int .i64 ((j : Nat) : Int)))))], []⟩) (fun (j : Nat) => j ≤ sN n m p q i ∧ ∀ j', j' < j → (limbs (sC n m p q i j').natAbs).length ≤ 4) (fun (j : Nat) => sN n m p q i - j) 0 (⟨Nat.zero_le _, fun j' hj' => absurd hj' (Nat.not_lt_zero _)⟩) (wk (sl := [(2, .d (.one (.v (.bool false)))), (14, .d (.agg ([.row 2 (dg p n) (zel K (cX (crL n m p q) p)), .row 2 (dg q m) (zel K (cX (crL n m p q) q)), .row 2 1 (zel K (fun _ => ((crL n m p q : Nat) : Int)))]))), (15, .d (.one (.v (.int .i64 ((i : Nat) : Int))))), (18, .d (.one (.row 2 (sN n m p q i) (zel K (sC n m p q i))))), (19, .d (.one (.v (.int .i64 ((sN n m p q i : Nat) : Int))))), (20, .d (.one (.v (.int .i64 ((0 : Nat) : Int)))))]) (hp := []) rfl ⟨hs rfl, hs rfl, hs rfl, hs rfl, hs rfl, hs rfl, trivial⟩ trivial rfl) ?_
    rintro j hI
    have hj : j ≤ sN n m p q i ∧ ∀ j', j' < j → (limbs (sC n m p q i j').natAbs).length ≤ 4 := hI
    show AW Try.prog _ _ ⟨30, [(2, .d (.one (.v (.bool false)))), (14, .d (.agg ([.row 2 (dg p n) (zel K (cX (crL n m p q) p)), .row 2 (dg q m) (zel K (cX (crL n m p q) q)), .row 2 1 (zel K (fun _ => ((crL n m p q : Nat) : Int)))]))), (15, .d (.one (.v (.int .i64 ((i : Nat) : Int))))), (18, .d (.one (.row 2 (sN n m p q i) (zel K (sC n m p q i))))), (19, .d (.one (.v (.int .i64 ((sN n m p q i : Nat) : Int))))), (20, .d (.one (.v (.int .i64 ((j : Nat) : Int)))))], []⟩
    refine cSeq ?_
    refine cReg ?_
    refine mV hTT (.d (.one (.v (.bool (decide (((j : Nat) : Int) < ((sN n m p q i : Nat) : Int))))))) rfl ?_
    refine mNil ?_
    refine tN ?_
    refine cSeq ?_
    refine cCond rfl (fun hc2 => ?_) (fun hc2 => ?_)
    · skip
      refine cSkip ?_
      refine tN ?_
      refine cSeq ?_
      refine cBlock ?_
      refine cSeq ?_
      have hjn : j < sN n m p q i := by have h0 := of_decide_eq_true hc2; omega
      refine cReg ?_
      refine mV hTT (.d (.one (.at 2 ((zel K (sC n m p q i)) j)))) (ixR (el := (zel K (sC n m p q i))) (z := ((j : Nat) : Int)) (n := (sN n m p q i)) rfl rfl rfl rfl rfl rfl (by omega) (by omega)) ?_
      refine mV hTT (.d (.agg (zn K ((sC n m p q i) j)))) rfl ?_
      refine mN hTT (.box 28 ([.v (.bool false), .v (.slice none 0 0)])) rfl rfl rfl ?_
      refine mS hTT 6 (.box 28 (zn K ((sC n m p q i) j))) rfl ?_
      refine mNil ?_
      refine tN ?_
      refine cSeq ?_
      refine cReg ?_
      refine mV hTT (.ptr 6 1) rfl ?_
      refine mV hTT (.d (.one (ln K (Int.natAbs ((sC n m p q i) j))))) rfl ?_
      refine mV hTT (.d (.one (.v (.int .i64 ((limbs (Int.natAbs ((sC n m p q i) j))).length : Int))))) rfl ?_
      refine mV hTT (.d (.one (.v (.bool (decide (((limbs (Int.natAbs ((sC n m p q i) j))).length : Int) > 4)))))) rfl ?_
      refine mNil ?_
      refine tN ?_
      refine cCond rfl (fun hc3 => ?_) (fun hc3 => ?_)
      · skip
        refine cSeq ?_
        obtain rfl : b = false := Bool.eq_false_iff.2 (fun hbt => absurd (hb.1 hbt i hi3 j hjn) (by have h0 := of_decide_eq_true hc3; omega))
        refine cReg ?_
        refine mV hTT _ rfl ?_
        refine mNil ?_
        refine tN ?_
        refine cRet ?_
        refine bR ?_
        refine tR ?_
        refine tR ?_
        refine bR ?_
        refine bR ?_
        refine tR ?_
        refine tR ?_
        refine bR ?_
        refine tR ?_
        exact rQ rfl (AV.le.rfl)
      · skip
        refine cSkip ?_
        refine bN ?_
        refine tN ?_
        refine cReg ?_
        refine mV hTT (.d (.one (.v (.int .i64 ((j + 1 : Nat) : Int))))) (evi (inc64 (by omega))) ?_
        refine mV hTT _ rfl ?_
        refine mNil ?_
        exact ⟨(j + 1), ⟨by omega, fun j' hj' => if e : j' = j then (by subst e; have h0 := of_decide_eq_false hc3; omega) else hj.2 j' (by omega)⟩, by omega, wk (sl := [(2, .d (.one (.v (.bool false)))), (14, .d (.agg ([.row 2 (dg p n) (zel K (cX (crL n m p q) p)), .row 2 (dg q m) (zel K (cX (crL n m p q) q)), .row 2 1 (zel K (fun _ => ((crL n m p q : Nat) : Int)))]))), (15, .d (.one (.v (.int .i64 ((i : Nat) : Int))))), (18, .d (.one (.row 2 (sN n m p q i) (zel K (sC n m p q i))))), (19, .d (.one (.v (.int .i64 ((sN n m p q i : Nat) : Int))))), (20, .d (.one (.v (.int .i64 (((j + 1) : Nat) : Int)))))]) (hp := []) rfl ⟨hs rfl, hs rfl, hs rfl, hs rfl, hs rfl, hs rfl, trivial⟩ trivial rfl⟩
    · skip
      refine cExit ?_
      refine tE ?_
      refine tE ?_
      refine bE ?_
      refine bN ?_
      refine tN ?_
      refine cReg ?_
      refine mV hTT (.d (.one (.v (.int .i64 ((i + 1 : Nat) : Int))))) (evi (inc64 (by omega))) ?_
      refine mV hTT _ rfl ?_
      refine mNil ?_
      exact ⟨(i + 1), ⟨by omega, fun i' hi' j' hj' => if e : i' = i then (by subst e; exact hj.2 j' (by have h0 := of_decide_eq_false hc2; omega)) else hi.2 i' (by omega) j' hj'⟩, by omega, wk (sl := [(2, .d (.one (.v (.bool false)))), (14, .d (.agg ([.row 2 (dg p n) (zel K (cX (crL n m p q) p)), .row 2 (dg q m) (zel K (cX (crL n m p q) q)), .row 2 1 (zel K (fun _ => ((crL n m p q : Nat) : Int)))]))), (15, .d (.one (.v (.int .i64 (((i + 1) : Nat) : Int)))))]) (hp := []) rfl ⟨hs rfl, hs rfl, hs rfl, trivial⟩ trivial rfl⟩
  · skip
    refine cExit ?_
    refine tE ?_
    refine tE ?_
    refine bE ?_
    refine tN ?_
    refine cSeq ?_
    obtain rfl : i = 3 := by have h0 := of_decide_eq_false hc1; omega
    obtain rfl : b = true := hb.2 hi.2
    refine cReg ?_
    refine mV hTT _ rfl ?_
    refine mNil ?_
    refine tN ?_
    refine cRet ?_
    exact rQ rfl (AV.le.rfl)

set_option maxRecDepth 100000 in
set_option maxHeartbeats 4000000 in
theorem aTMay {K n m : Nat} {p q : Nat → Rat} {b : Bool} {id : Int} (hb : b = true ↔ smC n m p q) (zp : ∀ i, n ≤ i → p i = 0) (zq : ∀ i, m ≤ i → q i = 0) (hn : n ≤ 1000) (hm : m ≤ 1000) (hi : 0 ≤ id) (hi1 : id ≤ 1048576) : ACall Try.prog 14 [.agg (crv K n m p q ++ [.v (.int .i64 id)])] (.d (.one (.v (.bool b)))) := by
  refine acallN hTT 16 [.tmp 2] Try.func14 rfl rfl rfl rfl rfl ?_
  refine cSeq ?_
  refine cReg ?_
  refine mN hTT (.box 38 (crv K n m p q ++ [.v (.int .i64 id)])) rfl rfl rfl ?_
  refine mV hTT _ rfl ?_
  refine mNil ?_
  refine tN ?_
  refine cSeq ?_
  refine cReg ?_
  refine mV hTT (.ptr 1 4) rfl ?_
  refine mV hTT (.d (.one (.v (.int .i64 id)))) rfl ?_
  refine mV hTT (.d (.one (.v (.bool true)))) (evb (decide_eq_true hi)) ?_
  refine mV hTT _ rfl ?_
  refine mV hTT (.ptr 1 4) rfl ?_
  refine mV hTT (.d (.one (.v (.int .i64 id)))) rfl ?_
  refine mV hTT (.d (.one (.v (.bool true)))) (evb (decide_eq_true hi1)) ?_
  refine mV hTT _ rfl ?_
  refine mV hTT _ rfl ?_
  refine mV hTT (.ptr 1 0) rfl ?_
  refine mV hTT (.d (.agg (crv K n m p q))) rfl ?_
  refine mC0 (aTSmall (K := K) hb zp zq hn hm) rfl rfl rfl ?_
  refine mV hTT _ rfl ?_
  refine mV hTT _ rfl ?_
  refine mNil ?_
  refine tN ?_
  refine cRet ?_
  exact rQ rfl (AV.le.rfl)

end Go.Proofs.Ytpnoklbijfmoaaa

/-
  TABLES, by the machine (2): New, at, Len, Put, Turn.
-/
set_option linter.unusedVariables false
set_option linter.unusedSimpArgs false
namespace Go.Proofs.Ytpnoklbijfmoaaa
open Go.RowKit

set_option maxRecDepth 100000 in
set_option maxHeartbeats 4000000 in
theorem aTNew {n d : Int} (h1 : 1 ≤ n) (h2 : n ≤ 6) (h3 : 0 ≤ d) (h4 : d ≤ 2) : ACallL Try.prog 6 [.d (.one (.v (.int .i64 n))), .d (.one (.v (.int .i64 d)))] [] [] [23] (fun r hp => r = .ptup 23 [.one (.v (.int .i64 0))] ∧ hp = [(23, .box 45 [.v (.int .i64 n), .v (.int .i64 d), .v (.slice none 0 0)])]) := by
  refine acallLN 24 [.tmp 4, .tmp 5] [] Try.func6 rfl rfl rfl rfl rfl trivial ?_
  show AW _ _ _ ⟨24, [(0, .d (.one (.v (.int .i64 n)))), (1, .d (.one (.v (.int .i64 d))))], []⟩
  refine cSeq ?_
  refine cReg ?_
  refine mV hTT _ rfl ?_
  refine mV hTT _ rfl ?_
  refine mNil ?_
  refine tN ?_
  refine cSeq ?_
  refine cSeq ?_
  refine cReg ?_
  refine mV hTT _ rfl ?_
  refine mV hTT (.d (.one (.v (.bool false)))) (evb (decide_eq_false (by omega))) ?_
  refine mV hTT _ rfl ?_
  refine mV hTT _ rfl ?_
  refine mV hTT (.d (.one (.v (.bool false)))) (evb (decide_eq_false (by omega))) ?_
  refine mV hTT _ rfl ?_
  refine mV hTT _ rfl ?_
  refine mV hTT _ rfl ?_
  refine mV hTT (.d (.one (.v (.bool false)))) (evb (decide_eq_false (by omega))) ?_
  refine mV hTT _ rfl ?_
  refine mV hTT _ rfl ?_
  refine mV hTT _ rfl ?_
  refine mV hTT (.d (.one (.v (.bool false)))) (evb (decide_eq_false (by omega))) ?_
  refine mV hTT _ rfl ?_
  refine mNil ?_
  refine tN ?_
  refine cF rfl ?_
  refine cSkip ?_
  refine tN ?_
  refine cSeq ?_
  refine cReg ?_
  refine mV hTT _ rfl ?_
  refine mV hTT _ rfl ?_
  refine mV hTT (.d (.agg ([.v (.int .i64 n), .v (.int .i64 d), .v (.slice none 0 0)]))) rfl ?_
  refine mN hTT (.box 45 ([.v (.int .i64 n), .v (.int .i64 d), .v (.slice none 0 0)])) rfl rfl rfl ?_
  refine mV hTT _ rfl ?_
  refine mV hTT _ rfl ?_
  refine mNil ?_
  refine tN ?_
  refine cRet ?_
  exact rL (.ptup 23 [.one (.v (.int .i64 0))]) (.ptup 23 [.one (.v (.int .i64 0))]) [(23, .box 45 ([.v (.int .i64 n), .v (.int .i64 d), .v (.slice none 0 0)]))] [] ⟨rfl, rfl⟩ (resL_pt hTT rfl rfl) (wk (sl := [(24, .ptup 23 [.one (.v (.int .i64 0))])]) (hp := [(23, .box 45 ([.v (.int .i64 n), .v (.int .i64 d), .v (.slice none 0 0)]))]) rfl ⟨hs rfl, trivial⟩ ⟨ho rfl, trivial⟩ rfl) ⟨⟨24, _, rfl, rfl⟩, trivial⟩

set_option maxRecDepth 100000 in
set_option maxHeartbeats 4000000 in
theorem aTAt {pp : Value} {mp md : Int} {K n m N : Nat} {p q : Nat → Nat → Rat} {ids : Nat → Int} {k : Nat} {id : Int} {b : Bool} (hk : k ≤ N) (hlt : ∀ i, i < k → ids i < id) (hge : k < N → id ≤ ids k) (hb : b = decide (k < N ∧ ids k = id)) (hN : N ≤ 100) : ACallL Try.prog 13 [.ptr 0 0, .d (.one (.v (.int .i64 id)))] [(0, .is pp (.box 45 ([.v (.int .i64 mp), .v (.int .i64 md), .row 5 N (pts K n m p q ids)])))] [0] [0] (fun r hp => r = .tup [.one (.v (.int .i64 ((k : Nat) : Int))), .one (.v (.bool b))] ∧ hp = [(0, .is pp (.box 45 ([.v (.int .i64 mp), .v (.int .i64 md), .row 5 N (pts K n m p q ids)])))]) := by
  refine acallLN 48 [.tmp 4, .tmp 5] [] Try.func13 rfl rfl rfl rfl rfl trivial ?_
  show AW _ _ _ ⟨48, [(0, .ptr 0 0), (1, .d (.one (.v (.int .i64 id))))], [(0, .is pp (.box 45 ([.v (.int .i64 mp), .v (.int .i64 md), .row 5 N (pts K n m p q ids)])))]⟩
  refine cSeq ?_
  refine cReg ?_
  refine mV hTT _ rfl ?_
  refine mV hTT _ rfl ?_
  refine mNil ?_
  refine tN ?_
  refine cSeq ?_
  refine cReg ?_
  refine mV hTT _ rfl ?_
  refine mNil ?_
  refine tN ?_
  refine cSeq ?_
  refine cBlock ?_
  refine cLoop (ι := Nat) (fun (i : Nat) => ⟨48, [(0, .ptr 0 0), (1, .d (.one (.v (.int .i64 id)))), (6, .d (.one (.v (.int .i64 ((i : Nat) : Int)))))], [(0, .is pp (.box 45 ([.v (.int .i64 mp), .v (.int .i64 md), .row 5 N (pts K n m p q ids)])))]⟩) (fun (i : Nat) => i ≤ k) (fun (i : Nat) => k - i) 0 (Nat.zero_le _) (wk (sl := [(0, .ptr 0 0), (1, .d (.one (.v (.int .i64 id)))), (6, .d (.one (.v (.int .i64 ((0 : Nat) : Int)))))]) (hp := [(0, .is pp (.box 45 ([.v (.int .i64 mp), .v (.int .i64 md), .row 5 N (pts K n m p q ids)])))]) rfl ⟨hs rfl, hs rfl, hs rfl, trivial⟩ ⟨ho rfl, trivial⟩ rfl) ?_
  rintro i hI
  have hi : i ≤ k := hI
  show AW Try.prog _ _ ⟨48, [(0, .ptr 0 0), (1, .d (.one (.v (.int .i64 id)))), (6, .d (.one (.v (.int .i64 ((i : Nat) : Int)))))], [(0, .is pp (.box 45 ([.v (.int .i64 mp), .v (.int .i64 md), .row 5 N (pts K n m p q ids)])))]⟩
  refine cSeq ?_
  refine cSeq ?_
  by_cases hik : i < k
  · skip
    refine cReg ?_
    refine mV hTT _ rfl ?_
    refine mV hTT _ rfl ?_
    refine mX (.ptr 0 0) (xNilP rfl rfl) ?_
    refine mV hTT (.ptr 0 2) rfl ?_
    refine mV hTT (.d (.one (.row 5 N (pts K n m p q ids)))) rfl ?_
    refine mV hTT (.d (.one (.v (.int .i64 (N : Int))))) rfl ?_
    refine mV hTT (.d (.one (.v (.bool true)))) (evb (decide_eq_true (by omega))) ?_
    refine mV hTT _ rfl ?_
    refine mV hTT _ rfl ?_
    refine mX (.ptr 0 0) (xNilP rfl rfl) ?_
    refine mV hTT (.ptr 0 2) rfl ?_
    refine mV hTT (.d (.one (.row 5 N (pts K n m p q ids)))) rfl ?_
    refine mV hTT _ rfl ?_
    refine mV hTT (.d (.one (.at 5 ((pts K n m p q ids) i)))) (ixR (el := (pts K n m p q ids)) (z := ((i : Nat) : Int)) (n := N) rfl rfl rfl rfl rfl rfl (by omega) (by omega)) ?_
    refine mV hTT _ rfl ?_
    refine mV hTT (.d (.one (.v (.int .i64 (ids i))))) rfl ?_
    refine mV hTT _ rfl ?_
    refine mV hTT (.d (.one (.v (.bool true)))) (evb (decide_eq_true (hlt i hik))) ?_
    refine mV hTT _ rfl ?_
    refine mNil ?_
    refine tN ?_
    refine cT rfl ?_
    refine cSkip ?_
    refine tN ?_
    refine cBlock ?_
    refine cReg ?_
    refine mV hTT _ rfl ?_
    refine mV hTT (.d (.one (.v (.int .i64 ((i + 1 : Nat) : Int))))) (evi (inc64 (by omega))) ?_
    refine mV hTT _ rfl ?_
    refine mNil ?_
    refine bN ?_
    exact ⟨(i + 1), by omega, by omega, wk (sl := [(0, .ptr 0 0), (1, .d (.one (.v (.int .i64 id)))), (6, .d (.one (.v (.int .i64 (((i + 1) : Nat) : Int)))))]) (hp := [(0, .is pp (.box 45 ([.v (.int .i64 mp), .v (.int .i64 md), .row 5 N (pts K n m p q ids)])))]) rfl ⟨hs rfl, hs rfl, hs rfl, trivial⟩ ⟨ho rfl, trivial⟩ rfl⟩
  · skip
    obtain rfl : i = k := by omega
    by_cases hkN : i < N
    · skip
      refine cReg ?_
      refine mV hTT _ rfl ?_
      refine mV hTT _ rfl ?_
      refine mX (.ptr 0 0) (xNilP rfl rfl) ?_
      refine mV hTT (.ptr 0 2) rfl ?_
      refine mV hTT (.d (.one (.row 5 N (pts K n m p q ids)))) rfl ?_
      refine mV hTT (.d (.one (.v (.int .i64 (N : Int))))) rfl ?_
      refine mV hTT (.d (.one (.v (.bool true)))) (evb (decide_eq_true (by omega))) ?_
      refine mV hTT _ rfl ?_
      refine mV hTT _ rfl ?_
      refine mX (.ptr 0 0) (xNilP rfl rfl) ?_
      refine mV hTT (.ptr 0 2) rfl ?_
      refine mV hTT (.d (.one (.row 5 N (pts K n m p q ids)))) rfl ?_
      refine mV hTT _ rfl ?_
      refine mV hTT (.d (.one (.at 5 ((pts K n m p q ids) i)))) (ixR (el := (pts K n m p q ids)) (z := ((i : Nat) : Int)) (n := N) rfl rfl rfl rfl rfl rfl (by omega) (by omega)) ?_
      refine mV hTT _ rfl ?_
      refine mV hTT (.d (.one (.v (.int .i64 (ids i))))) rfl ?_
      refine mV hTT _ rfl ?_
      refine mV hTT (.d (.one (.v (.bool false)))) (evb (decide_eq_false (by have h0 := hge hkN; omega))) ?_
      refine mV hTT _ rfl ?_
      refine mNil ?_
      refine tN ?_
      refine cF rfl ?_
      refine cExit ?_
      refine tE ?_
      refine tE ?_
      refine bE ?_
      refine tN ?_
      refine cSeq ?_
      refine cDrawK hTT 22 (by kernel_rfl) (by kernel_rfl) (by kernel_rfl) ?_
      refine .cons (OpS.V _ rfl) ?_
      refine .cons (OpS.V _ rfl) ?_
      refine .cons (OpS.V _ rfl) ?_
      refine .cons (OpS.X (.ptr 0 0) (xNilP rfl rfl)) ?_
      refine .cons (OpS.V (.ptr 0 2) rfl) ?_
      refine .cons (OpS.V (.d (.one (.row 5 N (pts K n m p q ids)))) rfl) ?_
      refine .cons (OpS.V (.d (.one (.v (.int .i64 (N : Int))))) rfl) ?_
      refine .cons (OpS.V (.d (.one (.v (.bool true)))) (evb (decide_eq_true (by omega)))) ?_
      refine .cons (OpS.V _ rfl) ?_
      refine .cons (OpS.V _ rfl) ?_
      refine .cons (OpS.X (.ptr 0 0) (xNilP rfl rfl)) ?_
      refine .cons (OpS.V (.ptr 0 2) rfl) ?_
      refine .cons (OpS.V (.d (.one (.row 5 N (pts K n m p q ids)))) rfl) ?_
      refine .cons (OpS.V _ rfl) ?_
      refine .cons (OpS.V (.d (.one (.at 5 ((pts K n m p q ids) i)))) (ixR (el := (pts K n m p q ids)) (z := ((i : Nat) : Int)) (n := N) rfl rfl rfl rfl rfl rfl (by omega) (by omega))) ?_
      refine .cons (OpS.V _ rfl) ?_
      refine .cons (OpS.V (.d (.one (.v (.int .i64 (ids i))))) rfl) ?_
      refine .cons (OpS.V _ rfl) ?_
      refine .cons (OpS.V (.d (.one (.v (.bool b)))) (evb (by rw [hb, Bool.eq_iff_iff]; simp [hkN]))) ?_
      refine .cons (OpS.V _ rfl) ?_
      refine .cons (OpS.V _ rfl) ?_
      refine .cons (OpS.V _ rfl) ?_
      refine .nil ?_
      refine mNil ?_
      refine tN ?_
      refine cRet ?_
      exact rL (.tup [.one (.v (.int .i64 ((i : Nat) : Int))), .one (.v (.bool b))]) (.tup [.one (.v (.int .i64 ((i : Nat) : Int))), .one (.v (.bool b))]) [(0, .is pp (.box 45 ([.v (.int .i64 mp), .v (.int .i64 md), .row 5 N (pts K n m p q ids)])))] [(0, .ptr 0 0)] ⟨rfl, rfl⟩ (resL_d hTT rfl AV.le.rfl) (wk (sl := [(48, .tup [.one (.v (.int .i64 ((i : Nat) : Int))), .one (.v (.bool b))]), (0, .ptr 0 0)]) (hp := [(0, .is pp (.box 45 ([.v (.int .i64 mp), .v (.int .i64 md), .row 5 N (pts K n m p q ids)])))]) rfl ⟨hs rfl, hs rfl, trivial⟩ ⟨ho rfl, trivial⟩ rfl) ⟨⟨0, _, rfl, rfl⟩, trivial⟩
    · skip
      obtain rfl : b = false := by rw [hb]; exact decide_eq_false (fun h => hkN h.1)
      refine cReg ?_
      refine mV hTT _ rfl ?_
      refine mV hTT _ rfl ?_
      refine mX (.ptr 0 0) (xNilP rfl rfl) ?_
      refine mV hTT (.ptr 0 2) rfl ?_
      refine mV hTT (.d (.one (.row 5 N (pts K n m p q ids)))) rfl ?_
      refine mV hTT (.d (.one (.v (.int .i64 (N : Int))))) rfl ?_
      refine mV hTT (.d (.one (.v (.bool false)))) (evb (decide_eq_false (by omega))) ?_
      refine mV hTT _ rfl ?_
      refine mG rfl rfl ?_
      refine mG rfl rfl ?_
      refine mG rfl rfl ?_
      refine mG rfl rfl ?_
      refine mG rfl rfl ?_
      refine mG rfl rfl ?_
      refine mG rfl rfl ?_
      refine mG rfl rfl ?_
      refine mG rfl rfl ?_
      refine mG rfl rfl ?_
      refine mV hTT _ rfl ?_
      refine mNil ?_
      refine tN ?_
      refine cF rfl ?_
      refine cExit ?_
      refine tE ?_
      refine tE ?_
      refine bE ?_
      refine tN ?_
      refine cSeq ?_
      refine cDrawK hTT 22 (by kernel_rfl) (by kernel_rfl) (by kernel_rfl) ?_
      refine .cons (OpS.V _ rfl) ?_
      refine .cons (OpS.V _ rfl) ?_
      refine .cons (OpS.V _ rfl) ?_
      refine .cons (OpS.X (.ptr 0 0) (xNilP rfl rfl)) ?_
      refine .cons (OpS.V (.ptr 0 2) rfl) ?_
      refine .cons (OpS.V (.d (.one (.row 5 N (pts K n m p q ids)))) rfl) ?_
      refine .cons (OpS.V (.d (.one (.v (.int .i64 (N : Int))))) rfl) ?_
      refine .cons (OpS.V (.d (.one (.v (.bool false)))) (evb (decide_eq_false (by omega)))) ?_
      refine .cons (OpS.V _ rfl) ?_
      refine .cons (OpS.G rfl rfl) ?_
      refine .cons (OpS.G rfl rfl) ?_
      refine .cons (OpS.G rfl rfl) ?_
      refine .cons (OpS.G rfl rfl) ?_
      refine .cons (OpS.G rfl rfl) ?_
      refine .cons (OpS.G rfl rfl) ?_
      refine .cons (OpS.G rfl rfl) ?_
      refine .cons (OpS.G rfl rfl) ?_
      refine .cons (OpS.G rfl rfl) ?_
      refine .cons (OpS.G rfl rfl) ?_
      refine .cons (OpS.V _ rfl) ?_
      refine .cons (OpS.V _ rfl) ?_
      refine .cons (OpS.V _ rfl) ?_
      refine .nil ?_
      refine mNil ?_
      refine tN ?_
      refine cRet ?_
      exact rL (.tup [.one (.v (.int .i64 ((i : Nat) : Int))), .one (.v (.bool false))]) (.tup [.one (.v (.int .i64 ((i : Nat) : Int))), .one (.v (.bool false))]) [(0, .is pp (.box 45 ([.v (.int .i64 mp), .v (.int .i64 md), .row 5 N (pts K n m p q ids)])))] [(0, .ptr 0 0)] ⟨rfl, rfl⟩ (resL_d hTT rfl AV.le.rfl) (wk (sl := [(48, .tup [.one (.v (.int .i64 ((i : Nat) : Int))), .one (.v (.bool false))]), (0, .ptr 0 0)]) (hp := [(0, .is pp (.box 45 ([.v (.int .i64 mp), .v (.int .i64 md), .row 5 N (pts K n m p q ids)])))]) rfl ⟨hs rfl, hs rfl, trivial⟩ ⟨ho rfl, trivial⟩ rfl) ⟨⟨0, _, rfl, rfl⟩, trivial⟩

set_option maxRecDepth 100000 in
set_option maxHeartbeats 4000000 in
theorem aTLen {pp : Value} {mp md : Int} {K n m N : Nat} {p q : Nat → Nat → Rat} {ids : Nat → Int} : ACallL Try.prog 16 [.ptr 0 0] [(0, .is pp (.box 45 ([.v (.int .i64 mp), .v (.int .i64 md), .row 5 N (pts K n m p q ids)])))] [0] [0] (fun r hp => r = .d (.one (.v (.int .i64 ((N : Nat) : Int)))) ∧ hp = [(0, .is pp (.box 45 ([.v (.int .i64 mp), .v (.int .i64 md), .row 5 N (pts K n m p q ids)])))]) := by
  refine acallLN 8 [.tmp 2] [] Try.func16 rfl rfl rfl rfl rfl trivial ?_
  show AW _ _ _ ⟨8, [(0, .ptr 0 0)], [(0, .is pp (.box 45 ([.v (.int .i64 mp), .v (.int .i64 md), .row 5 N (pts K n m p q ids)])))]⟩
  refine cSeq ?_
  refine cReg ?_
  refine mV hTT _ rfl ?_
  refine mNil ?_
  refine tN ?_
  refine cSeq ?_
  refine cReg ?_
  refine mV hTT _ rfl ?_
  refine mX (.ptr 0 0) (xNilP rfl rfl) ?_
  refine mV hTT (.ptr 0 2) rfl ?_
  refine mV hTT (.d (.one (.row 5 N (pts K n m p q ids)))) rfl ?_
  refine mV hTT (.d (.one (.v (.int .i64 (N : Int))))) rfl ?_
  refine mV hTT _ rfl ?_
  refine mNil ?_
  refine tN ?_
  refine cRet ?_
  exact rL (.d (.one (.v (.int .i64 (N : Int))))) (.d (.one (.v (.int .i64 (N : Int))))) [(0, .is pp (.box 45 ([.v (.int .i64 mp), .v (.int .i64 md), .row 5 N (pts K n m p q ids)])))] [(0, .ptr 0 0)] ⟨rfl, rfl⟩ (resL_p rfl) (wk (sl := [(8, .d (.one (.v (.int .i64 (N : Int))))), (0, .ptr 0 0)]) (hp := [(0, .is pp (.box 45 ([.v (.int .i64 mp), .v (.int .i64 md), .row 5 N (pts K n m p q ids)])))]) rfl ⟨hs rfl, hs rfl, trivial⟩ ⟨ho rfl, trivial⟩ rfl) ⟨⟨0, _, rfl, rfl⟩, trivial⟩

set_option maxRecDepth 100000 in
set_option maxHeartbeats 4000000 in
theorem aTPutArg {pp : Value} {mp md : Int} {K n m N : Nat} {p q : Nat → Nat → Rat} {ids : Nat → Int} {a b d1 d2 : Lf} {K0 n0 m0 : Nat} {x y : Nat → Int} {D id : Int} (ha : IsP a K0 n0 x) (hb : IsP b K0 m0 y) (hd : IsZ [d1, d2] K0 D) (hD : D ≠ 0) (hn0 : n0 ≤ 1000) (hm0 : m0 ≤ 1000) (zx : ∀ i, n ≤ i → x i = 0) (zy : ∀ i, m ≤ i → y i = 0) (hn : n ≤ 1000) (hm : m ≤ 1000) (hM : max K0 2 + 1 = K) (hMM : K ≤ 1000000) (hi : 0 ≤ id) (hi1 : id ≤ 1048576) (hN : N ≤ 100) (hlt : ∀ i, i < N → ids i < id) (hsm : ¬ smC n m (ov D x) (ov D y)) : ACallL Try.prog 7 [.ptr 0 0, .d (.agg [a, b, d1, d2, .v (.int .i64 id)])] [(0, .is pp (.box 45 ([.v (.int .i64 mp), .v (.int .i64 md), .row 5 N (pts K n m p q ids)])))] [0] [0] (fun r hp => r = .d (.one (.v (.int .i64 1))) ∧ hp = [(0, .is pp (.box 45 ([.v (.int .i64 mp), .v (.int .i64 md), .row 5 N (pts K n m p q ids)])))]) := by
  refine acallLN 65 [.tmp 4] [] Try.func7 rfl rfl rfl rfl rfl trivial ?_
  show AW _ _ _ ⟨65, [(0, .ptr 0 0), (1, .d (.agg ([a, b, d1, d2, .v (.int .i64 id)])))], [(0, .is pp (.box 45 ([.v (.int .i64 mp), .v (.int .i64 md), .row 5 N (pts K n m p q ids)])))]⟩
  refine cSeq ?_
  refine cReg ?_
  refine mN hTT (.box 38 ([a, b, d1, d2, .v (.int .i64 id)])) rfl rfl rfl ?_
  refine mV hTT _ rfl ?_
  refine mNil ?_
  refine tN ?_
  refine cSeq ?_
  refine cReg ?_
  refine mV hTT (.d (.agg ([a, b, d1, d2, .v (.int .i64 id)]))) rfl ?_
  refine mC0 (aTFresh (M := K) ha hb hd hD hn0 hm0 zx zy hM (by omega)) rfl rfl rfl ?_
  refine mS hTT 3 (.box 38 (crv K n m (ov D x) (ov D y) ++ [.v (.int .i64 id)])) rfl ?_
  refine mNil ?_
  refine tN ?_
  refine cSeq ?_
  refine cReg ?_
  refine mV hTT _ rfl ?_
  refine mV hTT (.ptr 3 4) rfl ?_
  refine mV hTT (.d (.one (.v (.int .i64 id)))) rfl ?_
  refine mCL (aTAt (k := N) (b := false) (by omega) hlt (fun h => absurd h (Nat.lt_irrefl _)) (decide_eq_false (fun h => absurd h.1 (Nat.lt_irrefl _))).symm hN) [(0, 0)] [] [] [] rfl rfl ⟨⟨_, _, rfl, AV.le.rfl, rfl⟩, ⟨_, _, rfl, AV.le.rfl, rfl⟩, trivial⟩ ⟨⟨_, _, rfl, rfl, AO.le.rfl, rfl⟩, trivial⟩ trivial ⟨⟨_, 0, _, rfl, rfl, rfl⟩, trivial⟩ ⟨Or.inr ⟨_, _, rfl, by decide, fun _ _ h => by obtain ⟨rfl, rfl⟩ := h; exact ⟨_, rfl⟩⟩, trivial⟩ trivial ?_
  rintro _ _ ⟨rfl, rfl⟩
  refine AL.wk (wk (sl := [(0, .ptr 0 0), (1, .d (.agg ([a, b, d1, d2, .v (.int .i64 id)]))), (3, .ptr 3 0), (4, .d (.one (.v (.int .i64 0)))), (8, .d (.agg ([a, b, d1, d2, .v (.int .i64 id)]))), (9, .d (.agg (crv K n m (ov D x) (ov D y) ++ [.v (.int .i64 id)]))), (11, .ptr 0 0), (12, .ptr 3 4), (13, .d (.one (.v (.int .i64 id)))), (14, .tup [.one (.v (.int .i64 ((N : Nat) : Int))), .one (.v (.bool false))])]) (hp := [(0, .is pp (.box 45 ([.v (.int .i64 mp), .v (.int .i64 md), .row 5 N (pts K n m p q ids)]))), (3, .box 38 (crv K n m (ov D x) (ov D y) ++ [.v (.int .i64 id)]))]) rfl ⟨hs rfl, hs rfl, hs rfl, hs rfl, hs rfl, hs rfl, hs rfl, hs rfl, hs rfl, hs rfl, trivial⟩ ⟨ho rfl, ho rfl, trivial⟩ rfl) ?_
  refine mV hTT _ rfl ?_
  refine mV hTT _ rfl ?_
  refine mV hTT _ rfl ?_
  refine mV hTT _ rfl ?_
  refine mV hTT _ rfl ?_
  refine mNil ?_
  refine tN ?_
  refine cSeq ?_
  refine cBlock ?_
  refine cSeq ?_
  refine cReg ?_
  refine mV hTT (.d (.agg (crv K n m (ov D x) (ov D y) ++ [.v (.int .i64 id)]))) rfl ?_
  refine mC0 (aTMay (b := false) ⟨fun h => absurd h Bool.noConfusion, fun h => absurd h hsm⟩ (ov_zz hD zx) (ov_zz hD zy) hn hm hi hi1) rfl rfl rfl ?_
  refine mV hTT (.d (.one (.v (.bool true)))) rfl ?_
  refine mV hTT _ rfl ?_
  refine mNil ?_
  refine tN ?_
  refine cT rfl ?_
  refine cSeq ?_
  refine cReg ?_
  refine mV hTT _ rfl ?_
  refine mNil ?_
  refine tN ?_
  refine cRet ?_
  refine bR ?_
  refine tR ?_
  exact rL (.d (.one (.v (.int .i64 1)))) (.d (.one (.v (.int .i64 1)))) [(0, .is pp (.box 45 ([.v (.int .i64 mp), .v (.int .i64 md), .row 5 N (pts K n m p q ids)])))] [(0, .ptr 0 0)] ⟨rfl, rfl⟩ (resL_p rfl) (wk (sl := [(65, .d (.one (.v (.int .i64 1)))), (0, .ptr 0 0)]) (hp := [(0, .is pp (.box 45 ([.v (.int .i64 mp), .v (.int .i64 md), .row 5 N (pts K n m p q ids)])))]) rfl ⟨hs rfl, hs rfl, trivial⟩ ⟨ho rfl, trivial⟩ rfl) ⟨⟨0, _, rfl, rfl⟩, trivial⟩

set_option maxRecDepth 100000 in
set_option maxHeartbeats 4000000 in
theorem aTPutFull {pp : Value} {mp md : Int} {K n m N : Nat} {p q : Nat → Nat → Rat} {ids : Nat → Int} {a b d1 d2 : Lf} {K0 n0 m0 : Nat} {x y : Nat → Int} {D id : Int} (ha : IsP a K0 n0 x) (hb : IsP b K0 m0 y) (hd : IsZ [d1, d2] K0 D) (hD : D ≠ 0) (hn0 : n0 ≤ 1000) (hm0 : m0 ≤ 1000) (zx : ∀ i, n ≤ i → x i = 0) (zy : ∀ i, m ≤ i → y i = 0) (hn : n ≤ 1000) (hm : m ≤ 1000) (hM : max K0 2 + 1 = K) (hMM : K ≤ 1000000) (hi : 0 ≤ id) (hi1 : id ≤ 1048576) (hN : N ≤ 100) (hlt : ∀ i, i < N → ids i < id) (hsm : smC n m (ov D x) (ov D y)) (hdeg : ((degC n m (ov D x) (ov D y) : Nat) : Int) ≤ md) (hr : mp ≤ (N : Int)) : ACallL Try.prog 7 [.ptr 0 0, .d (.agg [a, b, d1, d2, .v (.int .i64 id)])] [(0, .is pp (.box 45 ([.v (.int .i64 mp), .v (.int .i64 md), .row 5 N (pts K n m p q ids)])))] [0] [0] (fun r hp => r = .d (.one (.v (.int .i64 9))) ∧ hp = [(0, .is pp (.box 45 ([.v (.int .i64 mp), .v (.int .i64 md), .row 5 N (pts K n m p q ids)])))]) := by
  refine acallLN 65 [.tmp 4] [] Try.func7 rfl rfl rfl rfl rfl trivial ?_
  show AW _ _ _ ⟨65, [(0, .ptr 0 0), (1, .d (.agg ([a, b, d1, d2, .v (.int .i64 id)])))], [(0, .is pp (.box 45 ([.v (.int .i64 mp), .v (.int .i64 md), .row 5 N (pts K n m p q ids)])))]⟩
  refine cSeq ?_
  refine cReg ?_
  refine mN hTT (.box 38 ([a, b, d1, d2, .v (.int .i64 id)])) rfl rfl rfl ?_
  refine mV hTT _ rfl ?_
  refine mNil ?_
  refine tN ?_
  refine cSeq ?_
  refine cReg ?_
  refine mV hTT (.d (.agg ([a, b, d1, d2, .v (.int .i64 id)]))) rfl ?_
  refine mC0 (aTFresh (M := K) ha hb hd hD hn0 hm0 zx zy hM (by omega)) rfl rfl rfl ?_
  refine mS hTT 3 (.box 38 (crv K n m (ov D x) (ov D y) ++ [.v (.int .i64 id)])) rfl ?_
  refine mNil ?_
  refine tN ?_
  refine cSeq ?_
  refine cReg ?_
  refine mV hTT _ rfl ?_
  refine mV hTT (.ptr 3 4) rfl ?_
  refine mV hTT (.d (.one (.v (.int .i64 id)))) rfl ?_
  refine mCL (aTAt (k := N) (b := false) (by omega) hlt (fun h => absurd h (Nat.lt_irrefl _)) (decide_eq_false (fun h => absurd h.1 (Nat.lt_irrefl _))).symm hN) [(0, 0)] [] [] [] rfl rfl ⟨⟨_, _, rfl, AV.le.rfl, rfl⟩, ⟨_, _, rfl, AV.le.rfl, rfl⟩, trivial⟩ ⟨⟨_, _, rfl, rfl, AO.le.rfl, rfl⟩, trivial⟩ trivial ⟨⟨_, 0, _, rfl, rfl, rfl⟩, trivial⟩ ⟨Or.inr ⟨_, _, rfl, by decide, fun _ _ h => by obtain ⟨rfl, rfl⟩ := h; exact ⟨_, rfl⟩⟩, trivial⟩ trivial ?_
  rintro _ _ ⟨rfl, rfl⟩
  refine AL.wk (wk (sl := [(0, .ptr 0 0), (1, .d (.agg ([a, b, d1, d2, .v (.int .i64 id)]))), (3, .ptr 3 0), (4, .d (.one (.v (.int .i64 0)))), (8, .d (.agg ([a, b, d1, d2, .v (.int .i64 id)]))), (9, .d (.agg (crv K n m (ov D x) (ov D y) ++ [.v (.int .i64 id)]))), (11, .ptr 0 0), (12, .ptr 3 4), (13, .d (.one (.v (.int .i64 id)))), (14, .tup [.one (.v (.int .i64 ((N : Nat) : Int))), .one (.v (.bool false))])]) (hp := [(0, .is pp (.box 45 ([.v (.int .i64 mp), .v (.int .i64 md), .row 5 N (pts K n m p q ids)]))), (3, .box 38 (crv K n m (ov D x) (ov D y) ++ [.v (.int .i64 id)]))]) rfl ⟨hs rfl, hs rfl, hs rfl, hs rfl, hs rfl, hs rfl, hs rfl, hs rfl, hs rfl, hs rfl, trivial⟩ ⟨ho rfl, ho rfl, trivial⟩ rfl) ?_
  refine mV hTT _ rfl ?_
  refine mV hTT _ rfl ?_
  refine mV hTT _ rfl ?_
  refine mV hTT _ rfl ?_
  refine mV hTT _ rfl ?_
  refine mNil ?_
  refine tN ?_
  refine cSeq ?_
  refine cBlock ?_
  refine cSeq ?_
  refine cReg ?_
  refine mV hTT (.d (.agg (crv K n m (ov D x) (ov D y) ++ [.v (.int .i64 id)]))) rfl ?_
  refine mC0 (aTMay (b := true) ⟨fun _ => hsm, fun _ => rfl⟩ (ov_zz hD zx) (ov_zz hD zy) hn hm hi hi1) rfl rfl rfl ?_
  refine mV hTT (.d (.one (.v (.bool false)))) rfl ?_
  refine mV hTT _ rfl ?_
  refine mNil ?_
  refine tN ?_
  refine cF rfl ?_
  refine cSeq ?_
  refine cReg ?_
  refine mV hTT _ rfl ?_
  refine mV hTT _ rfl ?_
  refine mNil ?_
  refine tN ?_
  refine cF rfl ?_
  refine cSeq ?_
  refine cDrawK hTT 9 (by kernel_rfl) (by kernel_rfl) (by kernel_rfl) ?_
  refine .cons (OpS.V (.ptr 3 0) rfl) ?_
  refine .cons (OpS.V (.d (.agg (crv K n m (ov D x) (ov D y)))) rfl) ?_
  refine .cons (OpS.C0 (aCDeg (K := K) (ov_zz hD zx) (ov_zz hD zy) hn hm (by omega)) rfl rfl rfl) ?_
  refine .cons (OpS.V _ rfl) ?_
  refine .cons (OpS.X (.ptr 0 0) (xNilP rfl rfl)) ?_
  refine .cons (OpS.V (.ptr 0 1) rfl) ?_
  refine .cons (OpS.V (.d (.one (.v (.int .i64 md)))) rfl) ?_
  refine .cons (OpS.V (.d (.one (.v (.bool false)))) (evb (decide_eq_false (by omega)))) ?_
  refine .cons (OpS.V _ rfl) ?_
  refine .nil ?_
  refine mNil ?_
  refine tN ?_
  refine cF rfl ?_
  refine cSeq ?_
  refine cDrawK hTT 11 (by kernel_rfl) (by kernel_rfl) (by kernel_rfl) ?_
  refine .cons (OpS.V _ rfl) ?_
  refine .cons (OpS.X (.ptr 0 0) (xNilP rfl rfl)) ?_
  refine .cons (OpS.V (.ptr 0 2) rfl) ?_
  refine .cons (OpS.V (.d (.one (.row 5 N (pts K n m p q ids)))) rfl) ?_
  refine .cons (OpS.V (.d (.one (.v (.int .i64 (N : Int))))) rfl) ?_
  refine .cons (OpS.V _ rfl) ?_
  refine .cons (OpS.X (.ptr 0 0) (xNilP rfl rfl)) ?_
  refine .cons (OpS.V (.ptr 0 0) rfl) ?_
  refine .cons (OpS.V (.d (.one (.v (.int .i64 mp)))) rfl) ?_
  refine .cons (OpS.V (.d (.one (.v (.bool true)))) (evb (decide_eq_true (by omega)))) ?_
  refine .cons (OpS.V _ rfl) ?_
  refine .nil ?_
  refine mNil ?_
  refine tN ?_
  refine cT rfl ?_
  refine cSeq ?_
  refine cReg ?_
  refine mV hTT _ rfl ?_
  refine mNil ?_
  refine tN ?_
  refine cRet ?_
  refine bR ?_
  refine tR ?_
  exact rL (.d (.one (.v (.int .i64 9)))) (.d (.one (.v (.int .i64 9)))) [(0, .is pp (.box 45 ([.v (.int .i64 mp), .v (.int .i64 md), .row 5 N (pts K n m p q ids)])))] [(0, .ptr 0 0)] ⟨rfl, rfl⟩ (resL_p rfl) (wk (sl := [(65, .d (.one (.v (.int .i64 9)))), (0, .ptr 0 0)]) (hp := [(0, .is pp (.box 45 ([.v (.int .i64 mp), .v (.int .i64 md), .row 5 N (pts K n m p q ids)])))]) rfl ⟨hs rfl, hs rfl, trivial⟩ ⟨ho rfl, trivial⟩ rfl) ⟨⟨0, _, rfl, rfl⟩, trivial⟩

set_option maxRecDepth 100000 in
set_option maxHeartbeats 4000000 in
theorem aTPut {pp : Value} {mp md : Int} {K n m N : Nat} {p q : Nat → Nat → Rat} {ids : Nat → Int} {a b d1 d2 : Lf} {K0 n0 m0 : Nat} {x y : Nat → Int} {D id : Int} (ha : IsP a K0 n0 x) (hb : IsP b K0 m0 y) (hd : IsZ [d1, d2] K0 D) (hD : D ≠ 0) (hn0 : n0 ≤ 1000) (hm0 : m0 ≤ 1000) (zx : ∀ i, n ≤ i → x i = 0) (zy : ∀ i, m ≤ i → y i = 0) (hn : n ≤ 1000) (hm : m ≤ 1000) (hM : max K0 2 + 1 = K) (hMM : K ≤ 1000000) (hi : 0 ≤ id) (hi1 : id ≤ 1048576) (hN : N ≤ 100) (hlt : ∀ i, i < N → ids i < id) (hsm : smC n m (ov D x) (ov D y)) (hdeg : ((degC n m (ov D x) (ov D y) : Nat) : Int) ≤ md) (hr : (N : Int) < mp) : ACallL Try.prog 7 [.ptr 0 0, .d (.agg [a, b, d1, d2, .v (.int .i64 id)])] [(0, .is pp (.box 45 ([.v (.int .i64 mp), .v (.int .i64 md), .row 5 N (pts K n m p q ids)])))] [0] [0] (fun r hp => r = .d (.one (.v (.int .i64 0))) ∧ hp = [(0, .is pp (.box 45 ([.v (.int .i64 mp), .v (.int .i64 md), .row 5 (N + 1) (pts K n m (snoc p N (ov D x)) (snoc q N (ov D y)) (snoc ids N id))])))]) := by
  refine acallLN 65 [.tmp 4] [] Try.func7 rfl rfl rfl rfl rfl trivial ?_
  show AW _ _ _ ⟨65, [(0, .ptr 0 0), (1, .d (.agg ([a, b, d1, d2, .v (.int .i64 id)])))], [(0, .is pp (.box 45 ([.v (.int .i64 mp), .v (.int .i64 md), .row 5 N (pts K n m p q ids)])))]⟩
  refine cSeq ?_
  refine cReg ?_
  refine mN hTT (.box 38 ([a, b, d1, d2, .v (.int .i64 id)])) rfl rfl rfl ?_
  refine mV hTT _ rfl ?_
  refine mNil ?_
  refine tN ?_
  refine cSeq ?_
  refine cReg ?_
  refine mV hTT (.d (.agg ([a, b, d1, d2, .v (.int .i64 id)]))) rfl ?_
  refine mC0 (aTFresh (M := K) ha hb hd hD hn0 hm0 zx zy hM (by omega)) rfl rfl rfl ?_
  refine mS hTT 3 (.box 38 (crv K n m (ov D x) (ov D y) ++ [.v (.int .i64 id)])) rfl ?_
  refine mNil ?_
  refine tN ?_
  refine cSeq ?_
  refine cReg ?_
  refine mV hTT _ rfl ?_
  refine mV hTT (.ptr 3 4) rfl ?_
  refine mV hTT (.d (.one (.v (.int .i64 id)))) rfl ?_
  refine mCL (aTAt (k := N) (b := false) (by omega) hlt (fun h => absurd h (Nat.lt_irrefl _)) (decide_eq_false (fun h => absurd h.1 (Nat.lt_irrefl _))).symm hN) [(0, 0)] [] [] [] rfl rfl ⟨⟨_, _, rfl, AV.le.rfl, rfl⟩, ⟨_, _, rfl, AV.le.rfl, rfl⟩, trivial⟩ ⟨⟨_, _, rfl, rfl, AO.le.rfl, rfl⟩, trivial⟩ trivial ⟨⟨_, 0, _, rfl, rfl, rfl⟩, trivial⟩ ⟨Or.inr ⟨_, _, rfl, by decide, fun _ _ h => by obtain ⟨rfl, rfl⟩ := h; exact ⟨_, rfl⟩⟩, trivial⟩ trivial ?_
  rintro _ _ ⟨rfl, rfl⟩
  refine AL.wk (wk (sl := [(0, .ptr 0 0), (1, .d (.agg ([a, b, d1, d2, .v (.int .i64 id)]))), (3, .ptr 3 0), (4, .d (.one (.v (.int .i64 0)))), (8, .d (.agg ([a, b, d1, d2, .v (.int .i64 id)]))), (9, .d (.agg (crv K n m (ov D x) (ov D y) ++ [.v (.int .i64 id)]))), (11, .ptr 0 0), (12, .ptr 3 4), (13, .d (.one (.v (.int .i64 id)))), (14, .tup [.one (.v (.int .i64 ((N : Nat) : Int))), .one (.v (.bool false))])]) (hp := [(0, .is pp (.box 45 ([.v (.int .i64 mp), .v (.int .i64 md), .row 5 N (pts K n m p q ids)]))), (3, .box 38 (crv K n m (ov D x) (ov D y) ++ [.v (.int .i64 id)]))]) rfl ⟨hs rfl, hs rfl, hs rfl, hs rfl, hs rfl, hs rfl, hs rfl, hs rfl, hs rfl, hs rfl, trivial⟩ ⟨ho rfl, ho rfl, trivial⟩ rfl) ?_
  refine mV hTT _ rfl ?_
  refine mV hTT _ rfl ?_
  refine mV hTT _ rfl ?_
  refine mV hTT _ rfl ?_
  refine mV hTT _ rfl ?_
  refine mNil ?_
  refine tN ?_
  refine cSeq ?_
  refine cBlock ?_
  refine cSeq ?_
  refine cReg ?_
  refine mV hTT (.d (.agg (crv K n m (ov D x) (ov D y) ++ [.v (.int .i64 id)]))) rfl ?_
  refine mC0 (aTMay (b := true) ⟨fun _ => hsm, fun _ => rfl⟩ (ov_zz hD zx) (ov_zz hD zy) hn hm hi hi1) rfl rfl rfl ?_
  refine mV hTT (.d (.one (.v (.bool false)))) rfl ?_
  refine mV hTT _ rfl ?_
  refine mNil ?_
  refine tN ?_
  refine cF rfl ?_
  refine cSeq ?_
  refine cReg ?_
  refine mV hTT _ rfl ?_
  refine mV hTT _ rfl ?_
  refine mNil ?_
  refine tN ?_
  refine cF rfl ?_
  refine cSeq ?_
  refine cDrawK hTT 9 (by kernel_rfl) (by kernel_rfl) (by kernel_rfl) ?_
  refine .cons (OpS.V (.ptr 3 0) rfl) ?_
  refine .cons (OpS.V (.d (.agg (crv K n m (ov D x) (ov D y)))) rfl) ?_
  refine .cons (OpS.C0 (aCDeg (K := K) (ov_zz hD zx) (ov_zz hD zy) hn hm (by omega)) rfl rfl rfl) ?_
  refine .cons (OpS.V _ rfl) ?_
  refine .cons (OpS.X (.ptr 0 0) (xNilP rfl rfl)) ?_
  refine .cons (OpS.V (.ptr 0 1) rfl) ?_
  refine .cons (OpS.V (.d (.one (.v (.int .i64 md)))) rfl) ?_
  refine .cons (OpS.V (.d (.one (.v (.bool false)))) (evb (decide_eq_false (by omega)))) ?_
  refine .cons (OpS.V _ rfl) ?_
  refine .nil ?_
  refine mNil ?_
  refine tN ?_
  refine cF rfl ?_
  refine cSeq ?_
  refine cDrawK hTT 11 (by kernel_rfl) (by kernel_rfl) (by kernel_rfl) ?_
  refine .cons (OpS.V _ rfl) ?_
  refine .cons (OpS.X (.ptr 0 0) (xNilP rfl rfl)) ?_
  refine .cons (OpS.V (.ptr 0 2) rfl) ?_
  refine .cons (OpS.V (.d (.one (.row 5 N (pts K n m p q ids)))) rfl) ?_
  refine .cons (OpS.V (.d (.one (.v (.int .i64 (N : Int))))) rfl) ?_
  refine .cons (OpS.V _ rfl) ?_
  refine .cons (OpS.X (.ptr 0 0) (xNilP rfl rfl)) ?_
  refine .cons (OpS.V (.ptr 0 0) rfl) ?_
  refine .cons (OpS.V (.d (.one (.v (.int .i64 mp)))) rfl) ?_
  refine .cons (OpS.V (.d (.one (.v (.bool false)))) (evb (decide_eq_false (by omega)))) ?_
  refine .cons (OpS.V _ rfl) ?_
  refine .nil ?_
  refine mNil ?_
  refine tN ?_
  refine cF rfl ?_
  refine cSkip ?_
  refine bN ?_
  refine tN ?_
  refine cSeq ?_
  refine cReg ?_
  refine mV hTT _ rfl ?_
  refine mX (.ptr 0 0) (xNilP rfl rfl) ?_
  refine mV hTT (.ptr 0 2) rfl ?_
  refine mV hTT (.d (.one (.row 5 N (pts K n m p q ids)))) rfl ?_
  refine mV hTT _ rfl ?_
  refine mV hTT (.d (.one (.row 5 N (pts K n m p q ids)))) (slR (z := ((N : Nat) : Int)) (n := N) rfl rfl rfl rfl rfl rfl (by omega) (by omega)) ?_
  refine mA0 hTT (m := N) (el2 := (pts K n m p q ids)) rfl rfl rfl rfl rfl rfl rfl rfl rfl rfl rfl rfl rfl (by show N * 88 ≤ 140737488355328; omega) (by omega) rfl rfl ?_
  refine mV hTT _ rfl ?_
  refine mNil ?_
  refine tN ?_
  refine cSeq ?_
  refine cReg ?_
  refine mV hTT _ rfl ?_
  refine mV hTT (.d (.agg (crv K n m (ov D x) (ov D y) ++ [.v (.int .i64 id)]))) rfl ?_
  refine mB hTT (.d (.one (.row 5 1 (fun i' j' => ((crv K n m (ov D x) (ov D y) ++ [.v (.int .i64 id)])[i' * 5 + j']?).getD (.v undef))))) rfl ?_
  refine mA hTT (id := 49) (n := N) (m := 1) (el := (pts K n m p q ids)) (el2 := (fun i' j' => ((crv K n m (ov D x) (ov D y) ++ [.v (.int .i64 id)])[i' * 5 + j']?).getD (.v undef))) rfl rfl rfl (by show (N + 1) * 88 ≤ 140737488355328; omega) (by omega) rfl rfl rfl rfl rfl rfl rfl rfl rfl rfl ?_
  refine mV hTT _ rfl ?_
  refine mNil ?_
  refine tN ?_
  refine cSeq ?_
  refine cReg ?_
  refine mV hTT _ rfl ?_
  refine mV hTT _ rfl ?_
  refine mV hTT _ rfl ?_
  refine mX (.ptr 0 0) (xNilP rfl rfl) ?_
  refine mV hTT (.ptr 0 2) rfl ?_
  refine mV hTT (.d (.one (.row 5 N (pts K n m p q ids)))) rfl ?_
  refine mV hTT _ rfl ?_
  refine mV hTT (.d (.one (.row 5 (N - N) (fun i' j' => pts K n m p q ids (N + i') j')))) (slF (z := N) rfl rfl rfl rfl rfl rfl (Nat.le_refl _)) ?_
  refine mA hTT (id := 49) (n := (N + 1)) (m := (N - N)) (el := (appEl N (pts K n m p q ids) (fun i' j' => ((crv K n m (ov D x) (ov D y) ++ [.v (.int .i64 id)])[i' * 5 + j']?).getD (.v undef)))) (el2 := (fun i' j' => pts K n m p q ids (N + i') j')) rfl rfl rfl (by show ((N + 1) + (N - N)) * 88 ≤ 140737488355328; omega) (by omega) rfl rfl rfl rfl rfl rfl rfl rfl rfl rfl ?_
  refine AL.wk (wkRow 49 rfl) ?_
  refine mView 62 (.d (.one (.row 5 (N + 1) (pts K n m (snoc p N (ov D x)) (snoc q N (ov D y)) (snoc ids N id))))) rfl (le_snoc) ?_
  refine mX (.ptr 0 0) (xNilP rfl rfl) ?_
  refine mV hTT (.ptr 0 2) rfl ?_
  refine mS hTT 0 (.is pp (.box 45 ([.v (.int .i64 mp), .v (.int .i64 md), .row 5 (N + 1) (pts K n m (snoc p N (ov D x)) (snoc q N (ov D y)) (snoc ids N id))]))) rfl ?_
  refine mNil ?_
  refine tN ?_
  refine cSeq ?_
  refine cReg ?_
  refine mV hTT _ rfl ?_
  refine mNil ?_
  refine tN ?_
  refine cRet ?_
  exact rL (.d (.one (.v (.int .i64 0)))) (.d (.one (.v (.int .i64 0)))) [(0, .is pp (.box 45 ([.v (.int .i64 mp), .v (.int .i64 md), .row 5 (N + 1) (pts K n m (snoc p N (ov D x)) (snoc q N (ov D y)) (snoc ids N id))])))] [(0, .ptr 0 0)] ⟨rfl, rfl⟩ (resL_p rfl) (wk (sl := [(65, .d (.one (.v (.int .i64 0)))), (0, .ptr 0 0)]) (hp := [(0, .is pp (.box 45 ([.v (.int .i64 mp), .v (.int .i64 md), .row 5 (N + 1) (pts K n m (snoc p N (ov D x)) (snoc q N (ov D y)) (snoc ids N id))])))]) rfl ⟨hs rfl, hs rfl, trivial⟩ ⟨ho rfl, trivial⟩ rfl) ⟨⟨0, _, rfl, rfl⟩, trivial⟩

set_option maxRecDepth 100000 in
set_option maxHeartbeats 4000000 in
theorem aTTurnArg {pp : Value} {mp md : Int} {K n m N : Nat} {p q : Nat → Nat → Rat} {ids : Nat → Int} {a b d1 d2 : Lf} {K0 n0 m0 : Nat} {x y : Nat → Int} {D id : Int} (ha : IsP a K0 n0 x) (hb : IsP b K0 m0 y) (hd : IsZ [d1, d2] K0 D) (hD : D ≠ 0) (hn0 : n0 ≤ 1000) (hm0 : m0 ≤ 1000) (zx : ∀ i, n ≤ i → x i = 0) (zy : ∀ i, m ≤ i → y i = 0) (hn : n ≤ 1000) (hm : m ≤ 1000) (hM : max K0 2 + 1 = K) (hMM : K ≤ 1000000) (hi : 0 ≤ id) (hi1 : id ≤ 1048576) (hN : N ≤ 100) {k : Nat} (hk : k < N) (hlt : ∀ i, i < k → ids i < id) (he : ids k = id) (hsm : ¬ smC n m (ov D x) (ov D y)) : ACallL Try.prog 8 [.ptr 0 0, .d (.agg [a, b, d1, d2, .v (.int .i64 id)])] [(0, .is pp (.box 45 ([.v (.int .i64 mp), .v (.int .i64 md), .row 5 N (pts K n m p q ids)])))] [0] [0] (fun r hp => r = .d (.one (.v (.int .i64 1))) ∧ hp = [(0, .is pp (.box 45 ([.v (.int .i64 mp), .v (.int .i64 md), .row 5 N (pts K n m p q ids)])))]) := by
  refine acallLN 47 [.tmp 4] [] Try.func8 rfl rfl rfl rfl rfl trivial ?_
  show AW _ _ _ ⟨47, [(0, .ptr 0 0), (1, .d (.agg ([a, b, d1, d2, .v (.int .i64 id)])))], [(0, .is pp (.box 45 ([.v (.int .i64 mp), .v (.int .i64 md), .row 5 N (pts K n m p q ids)])))]⟩
  refine cSeq ?_
  refine cReg ?_
  refine mN hTT (.box 38 ([a, b, d1, d2, .v (.int .i64 id)])) rfl rfl rfl ?_
  refine mV hTT _ rfl ?_
  refine mNil ?_
  refine tN ?_
  refine cSeq ?_
  refine cReg ?_
  refine mV hTT (.d (.agg ([a, b, d1, d2, .v (.int .i64 id)]))) rfl ?_
  refine mC0 (aTFresh (M := K) ha hb hd hD hn0 hm0 zx zy hM (by omega)) rfl rfl rfl ?_
  refine mS hTT 3 (.box 38 (crv K n m (ov D x) (ov D y) ++ [.v (.int .i64 id)])) rfl ?_
  refine mNil ?_
  refine tN ?_
  refine cSeq ?_
  refine cReg ?_
  refine mV hTT _ rfl ?_
  refine mV hTT (.ptr 3 4) rfl ?_
  refine mV hTT (.d (.one (.v (.int .i64 id)))) rfl ?_
  refine mCL (aTAt (k := k) (b := true) (by omega) hlt (fun _ => Int.le_of_eq he.symm) (decide_eq_true ⟨hk, he⟩).symm hN) [(0, 0)] [] [] [] rfl rfl ⟨⟨_, _, rfl, AV.le.rfl, rfl⟩, ⟨_, _, rfl, AV.le.rfl, rfl⟩, trivial⟩ ⟨⟨_, _, rfl, rfl, AO.le.rfl, rfl⟩, trivial⟩ trivial ⟨⟨_, 0, _, rfl, rfl, rfl⟩, trivial⟩ ⟨Or.inr ⟨_, _, rfl, by decide, fun _ _ h => by obtain ⟨rfl, rfl⟩ := h; exact ⟨_, rfl⟩⟩, trivial⟩ trivial ?_
  rintro _ _ ⟨rfl, rfl⟩
  refine AL.wk (wk (sl := [(0, .ptr 0 0), (1, .d (.agg ([a, b, d1, d2, .v (.int .i64 id)]))), (3, .ptr 3 0), (4, .d (.one (.v (.int .i64 0)))), (7, .d (.agg ([a, b, d1, d2, .v (.int .i64 id)]))), (8, .d (.agg (crv K n m (ov D x) (ov D y) ++ [.v (.int .i64 id)]))), (10, .ptr 0 0), (11, .ptr 3 4), (12, .d (.one (.v (.int .i64 id)))), (13, .tup [.one (.v (.int .i64 ((k : Nat) : Int))), .one (.v (.bool true))])]) (hp := [(0, .is pp (.box 45 ([.v (.int .i64 mp), .v (.int .i64 md), .row 5 N (pts K n m p q ids)]))), (3, .box 38 (crv K n m (ov D x) (ov D y) ++ [.v (.int .i64 id)]))]) rfl ⟨hs rfl, hs rfl, hs rfl, hs rfl, hs rfl, hs rfl, hs rfl, hs rfl, hs rfl, hs rfl, trivial⟩ ⟨ho rfl, ho rfl, trivial⟩ rfl) ?_
  refine mV hTT _ rfl ?_
  refine mV hTT _ rfl ?_
  refine mV hTT _ rfl ?_
  refine mV hTT _ rfl ?_
  refine mV hTT _ rfl ?_
  refine mNil ?_
  refine tN ?_
  refine cSeq ?_
  refine cBlock ?_
  refine cSeq ?_
  refine cReg ?_
  refine mV hTT (.d (.agg (crv K n m (ov D x) (ov D y) ++ [.v (.int .i64 id)]))) rfl ?_
  refine mC0 (aTMay (b := false) ⟨fun h => absurd h Bool.noConfusion, fun h => absurd h hsm⟩ (ov_zz hD zx) (ov_zz hD zy) hn hm hi hi1) rfl rfl rfl ?_
  refine mV hTT (.d (.one (.v (.bool true)))) rfl ?_
  refine mV hTT _ rfl ?_
  refine mNil ?_
  refine tN ?_
  refine cT rfl ?_
  refine cSeq ?_
  refine cReg ?_
  refine mV hTT _ rfl ?_
  refine mNil ?_
  refine tN ?_
  refine cRet ?_
  refine bR ?_
  refine tR ?_
  exact rL (.d (.one (.v (.int .i64 1)))) (.d (.one (.v (.int .i64 1)))) [(0, .is pp (.box 45 ([.v (.int .i64 mp), .v (.int .i64 md), .row 5 N (pts K n m p q ids)])))] [(0, .ptr 0 0)] ⟨rfl, rfl⟩ (resL_p rfl) (wk (sl := [(47, .d (.one (.v (.int .i64 1)))), (0, .ptr 0 0)]) (hp := [(0, .is pp (.box 45 ([.v (.int .i64 mp), .v (.int .i64 md), .row 5 N (pts K n m p q ids)])))]) rfl ⟨hs rfl, hs rfl, trivial⟩ ⟨ho rfl, trivial⟩ rfl) ⟨⟨0, _, rfl, rfl⟩, trivial⟩

set_option maxRecDepth 100000 in
set_option maxHeartbeats 4000000 in
theorem aTTurn {pp : Value} {mp md : Int} {K n m N : Nat} {p q : Nat → Nat → Rat} {ids : Nat → Int} {a b d1 d2 : Lf} {K0 n0 m0 : Nat} {x y : Nat → Int} {D id : Int} (ha : IsP a K0 n0 x) (hb : IsP b K0 m0 y) (hd : IsZ [d1, d2] K0 D) (hD : D ≠ 0) (hn0 : n0 ≤ 1000) (hm0 : m0 ≤ 1000) (zx : ∀ i, n ≤ i → x i = 0) (zy : ∀ i, m ≤ i → y i = 0) (hn : n ≤ 1000) (hm : m ≤ 1000) (hM : max K0 2 + 1 = K) (hMM : K ≤ 1000000) (hi : 0 ≤ id) (hi1 : id ≤ 1048576) (hN : N ≤ 100) {k : Nat} (hk : k < N) (hlt : ∀ i, i < k → ids i < id) (he : ids k = id) (hsm : smC n m (ov D x) (ov D y)) (hdeg : ((degC n m (ov D x) (ov D y) : Nat) : Int) ≤ md) : ACallL Try.prog 8 [.ptr 0 0, .d (.agg [a, b, d1, d2, .v (.int .i64 id)])] [(0, .is pp (.box 45 ([.v (.int .i64 mp), .v (.int .i64 md), .row 5 N (pts K n m p q ids)])))] [0] [0] (fun r hp => r = .d (.one (.v (.int .i64 0))) ∧ ∃ c, hp = [(0, .is pp (.box 45 [.v (.int .i64 mp), .v (.int .i64 md), c]))]) := by
  refine acallLN 47 [.tmp 4] [] Try.func8 rfl rfl rfl rfl rfl trivial ?_
  show AW _ _ _ ⟨47, [(0, .ptr 0 0), (1, .d (.agg ([a, b, d1, d2, .v (.int .i64 id)])))], [(0, .is pp (.box 45 ([.v (.int .i64 mp), .v (.int .i64 md), .row 5 N (pts K n m p q ids)])))]⟩
  refine cSeq ?_
  refine cReg ?_
  refine mN hTT (.box 38 ([a, b, d1, d2, .v (.int .i64 id)])) rfl rfl rfl ?_
  refine mV hTT _ rfl ?_
  refine mNil ?_
  refine tN ?_
  refine cSeq ?_
  refine cReg ?_
  refine mV hTT (.d (.agg ([a, b, d1, d2, .v (.int .i64 id)]))) rfl ?_
  refine mC0 (aTFresh (M := K) ha hb hd hD hn0 hm0 zx zy hM (by omega)) rfl rfl rfl ?_
  refine mS hTT 3 (.box 38 (crv K n m (ov D x) (ov D y) ++ [.v (.int .i64 id)])) rfl ?_
  refine mNil ?_
  refine tN ?_
  refine cSeq ?_
  refine cReg ?_
  refine mV hTT _ rfl ?_
  refine mV hTT (.ptr 3 4) rfl ?_
  refine mV hTT (.d (.one (.v (.int .i64 id)))) rfl ?_
  refine mCL (aTAt (k := k) (b := true) (by omega) hlt (fun _ => Int.le_of_eq he.symm) (decide_eq_true ⟨hk, he⟩).symm hN) [(0, 0)] [] [] [] rfl rfl ⟨⟨_, _, rfl, AV.le.rfl, rfl⟩, ⟨_, _, rfl, AV.le.rfl, rfl⟩, trivial⟩ ⟨⟨_, _, rfl, rfl, AO.le.rfl, rfl⟩, trivial⟩ trivial ⟨⟨_, 0, _, rfl, rfl, rfl⟩, trivial⟩ ⟨Or.inr ⟨_, _, rfl, by decide, fun _ _ h => by obtain ⟨rfl, rfl⟩ := h; exact ⟨_, rfl⟩⟩, trivial⟩ trivial ?_
  rintro _ _ ⟨rfl, rfl⟩
  refine AL.wk (wk (sl := [(0, .ptr 0 0), (1, .d (.agg ([a, b, d1, d2, .v (.int .i64 id)]))), (3, .ptr 3 0), (4, .d (.one (.v (.int .i64 0)))), (7, .d (.agg ([a, b, d1, d2, .v (.int .i64 id)]))), (8, .d (.agg (crv K n m (ov D x) (ov D y) ++ [.v (.int .i64 id)]))), (10, .ptr 0 0), (11, .ptr 3 4), (12, .d (.one (.v (.int .i64 id)))), (13, .tup [.one (.v (.int .i64 ((k : Nat) : Int))), .one (.v (.bool true))])]) (hp := [(0, .is pp (.box 45 ([.v (.int .i64 mp), .v (.int .i64 md), .row 5 N (pts K n m p q ids)]))), (3, .box 38 (crv K n m (ov D x) (ov D y) ++ [.v (.int .i64 id)]))]) rfl ⟨hs rfl, hs rfl, hs rfl, hs rfl, hs rfl, hs rfl, hs rfl, hs rfl, hs rfl, hs rfl, trivial⟩ ⟨ho rfl, ho rfl, trivial⟩ rfl) ?_
  refine mV hTT _ rfl ?_
  refine mV hTT _ rfl ?_
  refine mV hTT _ rfl ?_
  refine mV hTT _ rfl ?_
  refine mV hTT _ rfl ?_
  refine mNil ?_
  refine tN ?_
  refine cSeq ?_
  refine cBlock ?_
  refine cSeq ?_
  refine cReg ?_
  refine mV hTT (.d (.agg (crv K n m (ov D x) (ov D y) ++ [.v (.int .i64 id)]))) rfl ?_
  refine mC0 (aTMay (b := true) ⟨fun _ => hsm, fun _ => rfl⟩ (ov_zz hD zx) (ov_zz hD zy) hn hm hi hi1) rfl rfl rfl ?_
  refine mV hTT (.d (.one (.v (.bool false)))) rfl ?_
  refine mV hTT _ rfl ?_
  refine mNil ?_
  refine tN ?_
  refine cF rfl ?_
  refine cSeq ?_
  refine cReg ?_
  refine mV hTT _ rfl ?_
  refine mV hTT (.d (.one (.v (.bool false)))) rfl ?_
  refine mV hTT _ rfl ?_
  refine mNil ?_
  refine tN ?_
  refine cF rfl ?_
  refine cSeq ?_
  refine cDrawK hTT 9 (by kernel_rfl) (by kernel_rfl) (by kernel_rfl) ?_
  refine .cons (OpS.V (.ptr 3 0) rfl) ?_
  refine .cons (OpS.V (.d (.agg (crv K n m (ov D x) (ov D y)))) rfl) ?_
  refine .cons (OpS.C0 (aCDeg (K := K) (ov_zz hD zx) (ov_zz hD zy) hn hm (by omega)) rfl rfl rfl) ?_
  refine .cons (OpS.V _ rfl) ?_
  refine .cons (OpS.X (.ptr 0 0) (xNilP rfl rfl)) ?_
  refine .cons (OpS.V (.ptr 0 1) rfl) ?_
  refine .cons (OpS.V (.d (.one (.v (.int .i64 md)))) rfl) ?_
  refine .cons (OpS.V (.d (.one (.v (.bool false)))) (evb (decide_eq_false (by omega)))) ?_
  refine .cons (OpS.V _ rfl) ?_
  refine .nil ?_
  refine mNil ?_
  refine tN ?_
  refine cF rfl ?_
  refine cSkip ?_
  refine bN ?_
  refine tN ?_
  refine cSeq ?_
  refine cReg ?_
  refine mV hTT _ rfl ?_
  refine mV hTT _ rfl ?_
  refine mX (.ptr 0 0) (xNilP rfl rfl) ?_
  refine mV hTT (.ptr 0 2) rfl ?_
  refine mV hTT (.d (.one (.row 5 N (pts K n m p q ids)))) rfl ?_
  refine mA0 hTT (m := N) (el2 := (pts K n m p q ids)) rfl rfl rfl rfl rfl rfl rfl rfl rfl rfl rfl rfl rfl (by show N * 88 ≤ 140737488355328; omega) (by omega) rfl rfl ?_
  refine mX (.ptr 0 0) (xNilP rfl rfl) ?_
  refine mV hTT (.ptr 0 2) rfl ?_
  refine mSo hTT 37 37 0 (fun x' => .is pp (.box 45 ([.v (.int .i64 mp), .v (.int .i64 md), .v x']))) rfl rfl (fun _ => rfl) (fun x1 => ?_)
  refine mNil ?_
  refine tN ?_
  refine cSeq ?_
  refine cDrawK hTT 6 (by kernel_rfl) (by kernel_rfl) (by kernel_rfl) ?_
  refine .cons (OpS.V _ rfl) ?_
  refine .cons (OpS.X (.ptr 0 0) (xNilP rfl rfl)) ?_
  refine .cons (OpS.V (.ptr 0 2) rfl) ?_
  refine .cons (OpS.V (.d (.one (.v x1))) rfl) ?_
  refine .cons (OpS.V _ rfl) ?_
  refine .cons (OpS.V (.d (.agg (crv K n m (ov D x) (ov D y) ++ [.v (.int .i64 id)]))) rfl) ?_
  refine .nil ?_
  refine AL.wk (wkRaw 43 37 37 rfl rfl rfl rfl) ?_
  refine mV hTT (.eptr 37 5 k 0) (ixO (z := ((k : Nat) : Int)) (n := N) rfl rfl rfl rfl rfl rfl rfl (by omega) (by omega)) ?_
  refine mS hTT 37 (.is x1 (.row 38 5 N (fun p' q' => if p' = k then ((crv K n m (ov D x) (ov D y) ++ [.v (.int .i64 id)])[q']?).getD (.v undef) else (pts K n m p q ids) p' q'))) rfl ?_
  refine mNil ?_
  refine tN ?_
  refine cSeq ?_
  refine cReg ?_
  refine mV hTT _ rfl ?_
  refine mNil ?_
  refine tN ?_
  refine cRet ?_
  exact rL (.d (.one (.v (.int .i64 0)))) (.d (.one (.v (.int .i64 0)))) [(0, .is pp (.box 45 ([.v (.int .i64 mp), .v (.int .i64 md), .v x1])))] [(0, .ptr 0 0)] ⟨rfl, _, rfl⟩ (resL_p rfl) (wk (sl := [(47, .d (.one (.v (.int .i64 0)))), (0, .ptr 0 0)]) (hp := [(0, .is pp (.box 45 ([.v (.int .i64 mp), .v (.int .i64 md), .v x1])))]) rfl ⟨hs rfl, hs rfl, trivial⟩ ⟨ho rfl, trivial⟩ rfl) ⟨⟨0, _, rfl, rfl⟩, trivial⟩

end Go.Proofs.Ytpnoklbijfmoaaa

/-
  TABLES, plain law: whole numbers of a curve as they stand; which are short. No condition; nothing of the program.
-/
set_option linter.unusedVariables false
set_option linter.unusedSimpArgs false
namespace Go.Proofs.Ytpnoklbijfmoaaa
open Go.RowKit

theorem rc_den (a : Nat → Int) (i : Nat) : (rc a i).den = 1 := Rat.den_intCast _
theorem lcd_one {q : Nat → Rat} : ∀ {n : Nat}, (∀ i, i < n → (q i).den = 1) → lcd q n = 1
  | 0, _ => rfl
  | n + 1, h => by
    show Nat.lcm (lcd q n) (q n).den = 1
    rw [lcd_one (fun i hi => h i (by omega)), h n (by omega)]; rfl
theorem crL_int {a b : Nat → Int} {n m : Nat} : crL n m (rc a) (rc b) = 1 := by
  unfold crL
  refine lcd_one fun i hi => ?_
  unfold catF
  cases Nat.ble (i + 1) (dg (rc a) n) with
  | true => exact rc_den a i
  | false => exact rc_den b _
theorem cX_int {a : Nat → Int} {i : Nat} : cX 1 (rc a) i = a i := by
  unfold cX
  have h1 : mkR ((1 : Nat) : Int) 1 = 1 := mkR_self (q := (1 : Rat))
  rw [h1, Rat.mul_one]
  exact Rat.num_intCast _
theorem smI {a b : Nat → Int} {n m : Nat} : smC n m (rc a) (rc b) ↔ (∀ j, j < dg a n → (limbs (a j).natAbs).length ≤ 4) ∧ (∀ j, j < dg b m → (limbs (b j).natAbs).length ≤ 4) := by
  have e1 : dg (rc a) n = dg a n := dg_cast n
  have e2 : dg (rc b) m = dg b m := dg_cast m
  have l1 : (limbs 1).length = 1 := by decide
  constructor
  · intro h
    refine ⟨fun j hj => ?_, fun j hj => ?_⟩
    · have := h 0 (by omega) j (by unfold sN; rw [if_pos rfl, e1]; exact hj)
      unfold sC at this
      rwa [if_pos rfl, crL_int, cX_int] at this
    · have := h 1 (by omega) j (by unfold sN; rw [if_neg (by omega), if_pos rfl, e2]; exact hj)
      unfold sC at this
      rwa [if_neg (by omega), if_pos rfl, crL_int, cX_int] at this
  · rintro ⟨h1, h2⟩ i hi j hj
    have h3 : i = 0 ∨ i = 1 ∨ i = 2 := by omega
    rcases h3 with rfl | rfl | rfl
    · unfold sN at hj
      rw [if_pos rfl, e1] at hj
      unfold sC
      rw [if_pos rfl, crL_int, cX_int]
      exact h1 j hj
    · unfold sN at hj
      rw [if_neg (by omega), if_pos rfl, e2] at hj
      unfold sC
      rw [if_neg (by omega), if_pos rfl, crL_int, cX_int]
      exact h2 j hj
    · unfold sC
      rw [if_neg (by omega), if_neg (by omega), crL_int]
      show (limbs 1).length ≤ 4
      omega

/-! ### The law's numbers: a one ahead of k noughts -/
def tw (k : Nat) : List Nat := List.replicate k 0 ++ [1]
theorem tw_len (k : Nat) : (tw k).length = k + 1 := by simp [tw]
theorem val_tw : ∀ k : Nat, val (tw k) = B32 ^ k
  | 0 => rfl
  | k + 1 => by
    show 0 + B32 * val (tw k) = B32 ^ (k + 1)
    rw [val_tw k, Nat.pow_succ, Nat.mul_comm]; omega
theorem limbs_tw : ∀ k : Nat, limbs (B32 ^ k) = tw k
  | 0 => by decide
  | k + 1 => by
    have hp : 0 < B32 ^ (k + 1) := Nat.pow_pos (by decide)
    rw [limbs_pos (by omega), Nat.pow_succ, Nat.mul_mod_left, Nat.mul_div_cancel _ (by decide : 0 < B32), limbs_tw k]
    rfl
def fX (x : Bool) (k : Nat) : Nat → Bool × List Nat := fun _ => (false, bif x then tw k else [1])
def fY (y : Bool) (k : Nat) : Nat → Bool × List Nat := fun i => bif y then (if i = 0 then (false, [5]) else (true, tw k)) else (false, [1])
def mY (y : Bool) : Nat := bif y then 2 else 1
def cx (x : Bool) (k : Nat) : Nat → Int := cfz 1 (fX x k)
def cy (y : Bool) (k : Nat) : Nat → Int := cfz (mY y) (fY y k)
def fW (k : Nat) : Nat → Bool × List Nat := fun _ => (false, tw k)
theorem ov_1 (c : Nat → Int) : ov 1 c = rc c := funext fun i => by
  have := ov_one c i
  rwa [show nzD 0 = 1 from rfl] at this
theorem ov_W (k : Nat) : ov ((B32 ^ k : Nat) : Int) (cfz 1 (fW k)) = rc (fun i => if i = 0 then 1 else 0) := funext fun i => by
  have hp : 0 < B32 ^ k := Nat.pow_pos (by decide)
  rw [ov_div (by omega)]
  by_cases e : i = 0
  · subst e
    have h1 : cfz 1 (fW k) 0 = ((B32 ^ k : Nat) : Int) := by
      unfold cfz; rw [if_pos (by omega)]
      show zv false (val (tw k)) = _
      rw [val_tw]; rfl
    rw [h1, Rat.divInt_self' (by omega)]; rfl
  · unfold cfz
    rw [if_neg (by omega), Rat.zero_divInt]
    show (0 : Rat) = ((if i = 0 then 1 else 0 : Int) : Rat)
    rw [if_neg e]; rfl
theorem smW : smC 1 2 (rc (fun i => if i = 0 then 1 else 0)) (rc (fun i => if i = 0 then 1 else 0)) := by
  refine smI.2 ⟨fun j hj => ?_, fun j hj => ?_⟩ <;>
  · by_cases e : j = 0
    · subst e; decide
    · simp only [if_neg e]; decide
theorem cx_0 (x : Bool) (k : Nat) : cx x k 0 = bif x then ((B32 ^ k : Nat) : Int) else 1 := by
  cases x
  · rfl
  · show zv false (val (tw k)) = _
    rw [val_tw]; rfl
theorem sm_cut (x y : Bool) (k : Nat) : smC 1 2 (ov 1 (cx x k)) (ov 1 (cy y k)) ↔ ¬ (4 ≤ k ∧ (x = true ∨ y = true)) := by
  rw [ov_1, ov_1, smI]
  have hp : 0 < B32 ^ k := Nat.pow_pos (by decide)
  have hl : (limbs (Int.natAbs ((B32 ^ k : Nat) : Int))).length = k + 1 := by rw [Int.natAbs_natCast, limbs_tw, tw_len]
  constructor
  · rintro ⟨h1, h2⟩ ⟨hk, hx | hy⟩
    · subst hx
      have hd : dg (cx true k) 1 = 1 := dg_stop (Or.inr (by rw [show 1 - 1 = 0 from rfl, cx_0]; show ((B32 ^ k : Nat) : Int) ≠ 0; omega))
      have := h1 0 (by omega)
      rw [cx_0] at this
      have h3 : (limbs (Int.natAbs ((B32 ^ k : Nat) : Int))).length ≤ 4 := this
      omega
    · subst hy
      have e1 : cy true k 1 = -((B32 ^ k : Nat) : Int) := by
        show zv true (val (tw k)) = _
        rw [val_tw]; rfl
      have hd : dg (cy true k) 2 = 2 := dg_stop (Or.inr (by rw [show 2 - 1 = 1 from rfl, e1]; omega))
      have := h2 1 (by omega)
      rw [e1, Int.natAbs_neg] at this
      omega
  · intro h
    refine ⟨fun j hj => ?_, fun j hj => ?_⟩
    · have := dg_le (cx x k) 1
      obtain rfl : j = 0 := by omega
      rw [cx_0]
      cases x with
      | false => show (limbs (Int.natAbs 1)).length ≤ 4; decide
      | true => show (limbs (Int.natAbs ((B32 ^ k : Nat) : Int))).length ≤ 4; have : ¬ 4 ≤ k := fun hk => h ⟨hk, Or.inl rfl⟩; omega
    · have := dg_le (cy y k) 2
      cases y with
      | false =>
        by_cases e : j = 0
        · subst e
          have : cy false k 0 = 1 := rfl
          rw [this]; decide
        · have : cy false k j = 0 := cfz_z j (by show 1 ≤ j; omega)
          rw [this]; decide
      | true =>
        have h3 : j = 0 ∨ j = 1 := by omega
        rcases h3 with rfl | rfl
        · have : cy true k 0 = 5 := rfl
          rw [this]; decide
        · have e1 : cy true k 1 = -((B32 ^ k : Nat) : Int) := by
            show zv true (val (tw k)) = _
            rw [val_tw]; rfl
          rw [e1, Int.natAbs_neg]
          have : ¬ 4 ≤ k := fun hk => h ⟨hk, Or.inr rfl⟩
          omega
theorem deg_12 {p q : Nat → Rat} : ((degC 1 2 p q : Nat) : Int) ≤ 1 := by
  have h1 := dg_le p 1
  have h2 := dg_le q 2
  unfold degC; omega

/-! ### Leaves -/
theorem row_lr {n : Nat} {el : Nat → Nat → Lf} {xs : List Nat} (hn : xs.length = n) (hx : ∀ x ∈ xs, x < B32) (he : ∀ i, i < n → el i 0 = .v (.int .u32 ((xs.getD i 0 : Nat) : Int))) : ∀ B w v, LfR B w (.row 1 n el) v → LfR B w (lr n xs) v := by
  rintro B w c ⟨a, cap, rfl, h1, h2, h3⟩
  subst hn
  refine lr_R ⟨rfl, h1, h2, hx, ?_⟩ (Nat.le_refl _) (fun x hx' hne hb => ?_)
  · rcases Nat.eq_zero_or_pos xs.length with h0 | h0
    · have : xs = [] := List.eq_nil_of_length_eq_zero h0
      subst this; exact Or.inl rfl
    · obtain ⟨b, off, rfl, _, _, _⟩ := h3 0 h0
      refine Or.inr ⟨b, off, rfl, fun j hj => ?_⟩
      have hj' : j < xs.length := by simpa [ints] using hj
      obtain ⟨b', off', he', _, _, h4⟩ := h3 j hj'
      cases he'
      obtain ⟨x, hx1, hx2⟩ := h4 0 (by omega)
      rw [he j hj'] at hx2
      obtain ⟨rfl, _⟩ := hx2
      rw [Nat.mul_one, Nat.add_zero] at hx1
      rw [hx1, ints_get]
      simp [hj']
  · obtain ⟨b, off, he', hb', _, _⟩ := h3 0 (List.length_pos_iff.2 hne)
    rw [he'] at hx'
    cases hx'
    exact hb' hb
theorem tw_lt (k : Nat) : ∀ x ∈ tw k, x < B32 := by
  intro x hx
  simp only [tw, List.mem_append, List.mem_replicate, List.mem_singleton] at hx
  rcases hx with ⟨_, rfl⟩ | rfl <;> decide
theorem tw_get {k i : Nat} (hi : i < k + 1) : (tw k).getD i 0 = if i = k then 1 else 0 := by
  unfold tw
  by_cases e : i = k
  · subst e; simp [List.getD]
  · rw [if_neg e]
    have : i < k := by omega
    simp [List.getD, List.getElem?_append_left, this]
theorem le_tw {k : Nat} {el : Nat → Nat → Lf} (hk : k ≤ 5) (he : ∀ i, i < k + 1 → el i 0 = .v (.int .u32 (if i = k then 1 else 0))) : AV.le (.d (.one (.row 1 (k + 1) el))) (.d (.one (lr 6 (tw k)))) := le_one fun B w v h => lr_mono (by omega) _ _ _ (row_lr (tw_len k) (tw_lt k) (fun i hi => by
  rw [he i hi, tw_get hi]
  by_cases e : i = k
  · rw [if_pos e, if_pos e]; rfl
  · rw [if_neg e, if_neg e]; rfl) B w v h)
theorem le_five {el : Nat → Nat → Lf} (h : el 0 0 = .v (.int .u32 5) := by rfl) : AV.le (.d (.one (.row 1 1 el))) (.d (.one (lr 6 [5]))) := le_one fun B w v hv => lr_mono (K := 1) (by omega) _ _ _ (row_lr (n := 1) (xs := [5]) rfl (by decide) (fun i hi => by
  obtain rfl : i = 0 := by omega
  rw [h]; rfl) B w v hv)
def oc (x : Int) : Nat → Int := fun i => if i = 0 then x else 0
theorem oc_z {x : Int} : ∀ i, 1 ≤ i → oc x i = 0 := fun i hi => if_neg (by omega)
theorem crv_int {K n m : Nat} {a b : Nat → Int} : crv K n m (rc a) (rc b) = [prow K (dg a n) a, prow K (dg b m) b] ++ zn K 1 := by
  unfold crv cvn
  rw [crL_int, show cX 1 (rc a) = a from funext fun i => cX_int, show cX 1 (rc b) = b from funext fun i => cX_int, show dg (rc a) n = dg a n from dg_cast n, show dg (rc b) m = dg b m from dg_cast m]
  rfl
theorem crv_oc {K : Nat} {x y : Int} (hx : x ≠ 0) (hy : y ≠ 0) : crv K 1 1 (rc (fun i => if i = 0 then x else 0)) (rc (fun i => if i = 0 then y else 0)) = [prow K 1 (oc x), prow K 1 (oc y)] ++ zn K 1 := by
  rw [crv_int, dg_stop (n := 1) (Or.inr (by simpa using hx)), dg_stop (n := 1) (Or.inr (by simpa using hy))]
  rfl
theorem sm_oc : smC 1 2 (ov 1 (oc 1)) (ov 1 (oc 2)) := by
  rw [ov_1, ov_1]
  refine smI.2 ⟨fun j hj => ?_, fun j hj => ?_⟩
  · have := dg_le (oc 1) 1
    obtain rfl : j = 0 := by omega
    decide
  · have h2 : dg (oc 2) 2 = dg (oc 2) 1 := dg_step rfl
    have := dg_le (oc 2) 1
    obtain rfl : j = 0 := by omega
    decide
theorem le_x0 {k : Nat} : ∀ B w v, LfR B w (.row 2 1 (zel 3 (oc 1))) v → LfR B w (.row 2 1 (ael 6 (fX false k))) v := row_le fun i hi j hj B w v hv => by
  obtain rfl : i = 0 := by omega
  match j, hj, hv with
  | 0, _, hv => exact hv
  | 1, _, hv => exact lr_mono (by omega) _ _ _ (show LfR B w (lr 3 [1]) v from hv)
theorem le_y0 {k : Nat} : ∀ B w v, LfR B w (.row 2 1 (zel 3 (oc 1))) v → LfR B w (.row 2 1 (ael 6 (fY false k))) v := row_le fun i hi j hj B w v hv => by
  obtain rfl : i = 0 := by omega
  match j, hj, hv with
  | 0, _, hv => exact hv
  | 1, _, hv => exact lr_mono (by omega) _ _ _ (show LfR B w (lr 3 [1]) v from hv)
theorem le_x1 {k : Nat} : ∀ B w v, LfR B w (.row 2 1 (fun i' j' => (([.v (.bool false), lr 6 (tw k)])[i' * 2 + j']?).getD (.v undef))) v → LfR B w (.row 2 1 (ael 6 (fX true k))) v := row_le fun i hi j hj B w v hv => by
  obtain rfl : i = 0 := by omega
  match j, hj, hv with
  | 0, _, hv => exact hv
  | 1, _, hv => exact hv
theorem le_y1 {k : Nat} : ∀ B w v, LfR B w (.row 2 2 (fun i' j' => (([.v (.bool false), lr 6 [5], .v (.bool true), lr 6 (tw k)])[i' * 2 + j']?).getD (.v undef))) v → LfR B w (.row 2 2 (ael 6 (fY true k))) v := row_le fun i hi j hj B w v hv => by
  match i, hi, j, hj, hv with
  | 0, _, 0, _, hv => exact hv
  | 0, _, 1, _, hv => exact hv
  | 1, _, 0, _, hv => exact hv
  | 1, _, 1, _, hv => exact hv
theorem isW {k : Nat} : IsP (.row 2 1 (fun i' j' => (([.v (.bool false), lr 6 (tw k)])[i' * 2 + j']?).getD (.v undef))) 6 1 (cfz 1 (fW k)) := ⟨⟨fW k, row_le fun i hi j hj B w v hv => by
  obtain rfl : i = 0 := by omega
  match j, hj, hv with
  | 0, _, hv => exact hv
  | 1, _, hv => exact hv, fun i hi => (show cfz 1 (fW k) i = fzv (fW k) i from if_pos hi).symm⟩, cfz_z⟩
theorem isA {n K : Nat} {f : Nat → Bool × List Nat} : IsP (arow K n f) K n (cfz n f) := ⟨⟨f, fun _ _ _ h => h, fun i hi => (show cfz n f i = fzv f i from if_pos hi).symm⟩, cfz_z⟩
theorem isZW {k : Nat} : IsZ [.v (.bool false), lr 6 (tw k)] 6 ((B32 ^ k : Nat) : Int) := (iszr 6 false (tw k)).eq (by rw [val_tw]; rfl)
theorem W_ne (k : Nat) : ((B32 ^ k : Nat) : Int) ≠ 0 := by
  have hp : 0 < B32 ^ k := Nat.pow_pos (by decide)
  omega
theorem sm_W (k : Nat) : smC 1 2 (ov ((B32 ^ k : Nat) : Int) (cfz 1 (fW k))) (ov ((B32 ^ k : Nat) : Int) (cfz 1 (fW k))) := by rw [ov_W]; exact smW
theorem cx_z {x : Bool} {k : Nat} : ∀ i, 1 ≤ i → cx x k i = 0 := cfz_z
theorem cy_z {y : Bool} {k : Nat} : ∀ i, 2 ≤ i → cy y k i = 0 := fun i hi => cfz_z i (by cases y <;> (show _ ≤ i; simp only [mY]; simp; omega))
theorem leo_tab0 {x : Value} {t : TypeId} {a b : Lf} {sz : Nat} {el : Nat → Nat → Lf} : AO.le (.is x (.box t [a, b, .v (.slice none 0 0)])) (.is x (.box t [a, b, .row sz 0 el])) := by
  rintro B w0 w v ⟨h0, g, vs, h1, h2, h3, h4⟩
  refine ⟨h0, g, vs, h1, h2, h3, ?_⟩
  match vs, h4 with
  | [c1, c2, c3], ⟨k1, k2, ⟨k3, _⟩, _⟩ => exact ⟨k1, k2, ⟨none, 0, k3, Nat.le_refl _, fun _ => rfl, fun i hi => absurd hi (Nat.not_lt_zero _)⟩, trivial⟩

end Go.Proofs.Ytpnoklbijfmoaaa

/-
  THE ABSTRACT MACHINE, guards on what was left out. No condition; nothing of the program.
-/
set_option linter.unusedVariables false
set_option linter.unusedSimpArgs false
namespace Go.Proofs.Ytpnoklbijfmoaaa
open Go.RowKit

/-- Does its guard ask what was left out? -/
def gsu (ops : Array Oper) (s : AS) (o : Oper) : Bool :=
  match o.guard with
  | none => false
  | some (j, _) => match ops.toList[j]? with
    | some oj => match oj.dst with
      | some d => match lk s.sl d with
        | some (.tup []) => true
        | _ => false
      | none => false
    | none => false
theorem gsu_ok {ops : Array Oper} {s : AS} {o : Oper} {ρ : Rho} {B : BS} {w : World} {a : Act} (h : gsu ops s o = true) (hs : Slots ρ B w s.sl a) : Region.wanted o (yielded ops a.tmps) = false := by
  unfold gsu at h
  unfold Region.wanted
  split at h
  · exact absurd h Bool.noConfusion
  · rename_i j want hg
    rw [hg]
    split at h
    · rename_i oj hj
      split at h
      · rename_i d hd
        split at h
        · rename_i hb
          obtain ⟨v, hv, hr⟩ := hs d _ hb
          obtain ⟨cs, rfl, hcs⟩ := hr
          have hj' : ops[j]? = some oj := by rw [← Array.getElem?_toList]; exact hj
          simp only [yielded, hj', Option.bind_some, hd, hv]
          cases want <;> rfl
        · exact absurd h Bool.noConfusion
      · exact absurd h Bool.noConfusion
    · exact absurd h Bool.noConfusion
section
variable {P : Program} {ops : Array Oper} {Q : Qs} {o : Oper} {l : List Oper} {s : AS}
theorem mGt (hg : gst ops s o = some false) (hd : dok o.dst s.n = true) (k : AL P ops Q l (s.put o.dst (.tup []))) : AL P ops Q (o :: l) s := by
  rintro B0 w0 a w ⟨ρ, hc, hn, hdf, hs⟩
  unfold wpList
  rw [if_neg (by rw [gst_ok hg hs]; exact Bool.noConfusion)]
  exact k B0 w0 _ w (den_put hc hn hdf hs hd ⟨[], rfl, trivial⟩)
theorem mU (hg : gsu ops s o = true) (hd : dok o.dst s.n = true) (k : AL P ops Q l (s.put o.dst (.tup []))) : AL P ops Q (o :: l) s := by
  rintro B0 w0 a w ⟨ρ, hc, hn, hdf, hs⟩
  unfold wpList
  rw [if_neg (by rw [gsu_ok hg hs]; exact Bool.noConfusion)]
  exact k B0 w0 _ w (den_put hc hn hdf hs hd ⟨[], rfl, trivial⟩)
end
end Go.Proofs.Ytpnoklbijfmoaaa

