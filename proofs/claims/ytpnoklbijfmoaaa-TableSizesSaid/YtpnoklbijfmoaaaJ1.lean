/-
  THE ABSTRACT MACHINE, 9: A REGION THAT DRAWS ITS ORDER, by what is said of the operations that are done. No condition; nothing of the program.
-/
import Derived.Test.YtpnoklbijfmoaaaJ0
import Derived.StillTail
import Derived.Test.YtpnoklbijfmoaaaProg
import Derived.Test.YtpnoklbijfmoaaaRows
import Derived.BigQuiet
import Derived.Deep.QuietTactic
import Derived.Deep.DeepCutAuto
set_option linter.unusedVariables false
set_option linter.unusedSimpArgs false
namespace Go.Proofs.Ytpnoklbijfmoaaa
open Go.RowKit

namespace Am
def waitsOn (o : Oper) (j : Nat) : Bool := o.after.toList.any fun e => Region.binds .any e && e.on == j

def valOf (o : Oper) (a : Act) : Value := match o.dst with | some d => (a.tmps[d]?).getD undef | none => undef

/-- As the guard says. -/
def IfW (b : Bool) (p q : Prop) : Prop := (b = true → p) ∧ (b = false → q)
theorem ifW_pos {b : Bool} {p q : Prop} (h : b = true) (hp : p) : IfW b p q := ⟨fun _ => hp, fun h' => absurd (h.symm.trans h') Bool.noConfusion⟩
theorem ifW_neg {b : Bool} {p q : Prop} (h : b = false) (hq : q) : IfW b p q := ⟨fun h' => absurd (h.symm.trans h') Bool.noConfusion, fun _ => hq⟩

def putsR : List Oper → Nat → Act → (Nat → Value) → Act
  | [], _, a, _ => a
  | o :: l, k, a, vs => putsR l (k + 1) (a.put o.dst (vs k)) vs

theorem putsR_snoc : ∀ (l : List Oper) (k : Nat) (a : Act) (vs : Nat → Value) (o : Oper), putsR (l ++ [o]) k a vs = (putsR l k a vs).put o.dst (vs (k + l.length))
  | [], k, a, vs, o => by simp [putsR]
  | x :: l, k, a, vs, o => by
    show putsR (l ++ [o]) (k + 1) (a.put x.dst (vs k)) vs = (putsR l (k + 1) (a.put x.dst (vs k)) vs).put o.dst (vs (k + (l.length + 1)))
    rw [putsR_snoc l (k + 1) _ vs o, show k + 1 + l.length = k + (l.length + 1) by omega]

/-- The frame: what the operations of D have written, all else as it was. -/
structure InvA (ops : Array Oper) (n : Nat) (a0 : Act) (D : Nat → Prop) (vs : Nat → Value) (a : Act) : Prop where
  size : a.tmps.size = a0.tmps.size
  defs : a.defers = a0.defers
  wr : ∀ k o d, k < n → ops[k]? = some o → D k → o.dst = some d → a.tmps[d]? = some (vs k)
  no : ∀ t, (∀ k o, k < n → ops[k]? = some o → D k → o.dst ≠ some t) → a.tmps[t]? = a0.tmps[t]?

/-- The operations' own destinations: within the frame, no two alike; what is looked at is waited for. -/
def regB (ops : Array Oper) (n N : Nat) : Bool :=
  (List.range n).all fun i => match ops[i]? with
    | none => false
    | some oi => (match oi.dst with | some d => decide (d < N) | none => true) &&
      oi.after.all (fun e => !Region.binds .any e || decide (e.on < i)) &&
      (List.range n).all fun k => match ops[k]? with
        | none => false
        | some ok => k == i || (match ok.dst with
          | some d => (!(oi.looksAt ops).contains d || (decide (k < i) && waitsOn oi k) || (decide (i < k) && waitsOn ok i)) && oi.dst != some d
          | none => true)
def dstB (ops : Array Oper) (n : Nat) : Bool := (List.range n).all fun i => match ops[i]? with
  | none => false
  | some oi => oi.dst.isSome
theorem dstB_ok {ops : Array Oper} {n : Nat} (h : dstB ops n = true) : ∀ i o, i < n → ops[i]? = some o → ∃ d, o.dst = some d := by
  intro i o hi ho
  have h1 := List.all_eq_true.1 h i (List.mem_range.2 hi)
  rw [ho] at h1
  exact Option.isSome_iff_exists.1 h1

structure RegOk (ops : Array Oper) (n N : Nat) : Prop where
  dst : ∀ i o d, i < n → ops[i]? = some o → o.dst = some d → d < N
  back : ∀ i o e, i < n → ops[i]? = some o → e ∈ o.after → Region.binds .any e = true → e.on < i
  look : ∀ i k oi ok d, i < n → k < n → ops[i]? = some oi → ops[k]? = some ok → k ≠ i → ok.dst = some d → d ∈ oi.looksAt ops → (k < i ∧ waitsOn oi k = true) ∨ (i < k ∧ waitsOn ok i = true)
  one : ∀ i k oi ok d, i < n → k < n → ops[i]? = some oi → ops[k]? = some ok → k ≠ i → ok.dst = some d → oi.dst ≠ some d

theorem regB_ok {ops : Array Oper} {n N : Nat} (h : regB ops n N = true) : RegOk ops n N := by
  have key : ∀ i o, i < n → ops[i]? = some o → (∀ d, o.dst = some d → d < N) ∧ (∀ e ∈ o.after, Region.binds .any e = true → e.on < i) ∧
      ∀ k ok d, k < n → ops[k]? = some ok → k ≠ i → ok.dst = some d → (d ∈ o.looksAt ops → (k < i ∧ waitsOn o k = true) ∨ (i < k ∧ waitsOn ok i = true)) ∧ o.dst ≠ some d := by
    intro i o hi ho
    have h1 := List.all_eq_true.1 h i (List.mem_range.2 hi)
    rw [ho] at h1
    simp only [Bool.and_eq_true] at h1
    obtain ⟨⟨h2, h3⟩, h4⟩ := h1
    refine ⟨?_, ?_, ?_⟩
    · intro d hd
      rw [hd] at h2; simpa using h2
    · intro e he hb
      have := Array.all_eq_true_iff_forall_mem.1 h3 e he
      simpa [hb] using this
    · intro k ok d hk hok hne hd
      have h5 := List.all_eq_true.1 h4 k (List.mem_range.2 hk)
      rw [hok] at h5
      simp only [hd, Bool.or_eq_true, Bool.and_eq_true, beq_iff_eq, hne, false_or, Bool.not_eq_true', decide_eq_true_eq, bne_iff_ne] at h5
      refine ⟨fun hm => ?_, h5.2⟩
      rcases h5.1 with (h6 | h6) | h6
      · have : (o.looksAt ops).contains d = true := by simpa using hm
        rw [this] at h6; cases h6
      · exact Or.inl h6
      · exact Or.inr h6
  exact ⟨fun i o d hi ho hd => (key i o hi ho).1 d hd, fun i o e hi ho he hb => (key i o hi ho).2.1 e he hb, fun i k oi ok d hi hk hoi hok hne hd hm => ((key i oi hi hoi).2.2 k ok d hk hok hne hd).1 hm,
    fun i k oi ok d hi hk hoi hok hne hd => ((key i oi hi hoi).2.2 k ok d hk hok hne hd).2⟩

section
variable {P : Program} {ops : Array Oper} {n N : Nat} {a0 : Act} {w0 : Wz}

theorem InvA.start (vs : Nat → Value) : InvA ops n a0 (fun _ => False) vs a0 := ⟨rfl, rfl, fun _ _ _ _ _ h => h.elim, fun _ _ => rfl⟩

theorem InvA.put {D : Nat → Prop} {vs : Nat → Value} {a : Act} {i : Nat} {o : Oper} (hr : RegOk ops n N) (hN : a0.tmps.size = N) (h : InvA ops n a0 D vs a) (hi : i < n) (ho : ops[i]? = some o) (hD : ¬ D i) (v : Value) :
    InvA ops n a0 (fun k => D k ∨ k = i) (fun k => if k = i then v else vs k) (a.put o.dst v) := by
  cases hdst : o.dst with
  | none =>
    refine ⟨h.size, h.defs, fun k ok d' hk hok hDk hd' => ?_, fun t ht => h.no t (fun k ok hk hok hDk => ht k ok hk hok (Or.inl hDk))⟩
    have hki : k ≠ i := by
      rintro rfl
      obtain rfl : ok = o := Option.some.inj (hok.symm.trans ho)
      rw [hdst] at hd'; cases hd'
    show a.tmps[d']? = some (if k = i then v else vs k)
    rw [if_neg hki]
    exact h.wr k ok d' hk hok (hDk.resolve_right hki) hd'
  | some d =>
  have hd := hdst
  have hdN := hr.dst i o d hi ho hd
  rw [← hdst]
  refine ⟨by rw [hd]; simpa [Act.put] using h.size, by rw [hd]; exact h.defs, ?_, ?_⟩
  · intro k ok d' hk hok hDk hd'
    rw [hd]
    by_cases hki : k = i
    · subst hki
      obtain rfl : ok = o := Option.some.inj (hok.symm.trans ho)
      obtain rfl : d' = d := Option.some.inj (hd'.symm.trans hd)
      have hlt : d' < a.tmps.size := by rw [h.size, hN]; exact hdN
      simp [Act.put, hlt]
    · have hne : d ≠ d' := by
        rintro rfl
        exact hr.one i k o ok d hi hk ho hok hki hd' hd
      rcases hDk with hDk | hDk
      · have := h.wr k ok d' hk hok hDk hd'
        simp [Act.put, Array.getElem?_setIfInBounds_ne hne, hki, this]
      · exact absurd hDk hki
  · intro t ht
    have hne : d ≠ t := by
      rintro rfl
      exact ht i o hi ho (Or.inr rfl) hd
    rw [hd]
    have := h.no t (fun k ok hk hok hDk => ht k ok hk hok (Or.inl hDk))
    simp [Act.put, Array.getElem?_setIfInBounds_ne hne, this]

theorem InvA.congr {D D' : Nat → Prop} {vs vs' : Nat → Value} {a : Act} (h : InvA ops n a0 D vs a) (hD : ∀ k, k < n → (D k ↔ D' k)) (hv : ∀ k, k < n → D k → vs k = vs' k) : InvA ops n a0 D' vs' a :=
  ⟨h.size, h.defs, fun k o d hk ho hd hdst => by rw [h.wr k o d hk ho ((hD k hk).2 hd) hdst, hv k hk ((hD k hk).2 hd)], fun t ht => h.no t (fun k o hk ho hd => ht k o hk ho ((hD k hk).1 hd))⟩

theorem puts_inv {l : List Oper} (hl : l.toArray = ops) (hr : RegOk ops n N) (hN : a0.tmps.size = N) (hn : n ≤ l.length) (vs : Nat → Value) : ∀ i, i ≤ n → InvA ops n a0 (fun k => k < i) vs (putsR (l.take i) 0 a0 vs)
  | 0, _ => (InvA.start vs).congr (fun k _ => by simp) (fun _ _ h => h.elim)
  | i + 1, hi => by
    have ih := puts_inv hl hr hN hn vs i (by omega)
    have hil : i < l.length := by omega
    have ho : ops[i]? = some l[i] := by rw [← hl]; simp [hil]
    have h1 := ih.put hr hN (by omega) ho (by omega) (vs i)
    rw [List.take_succ_eq_append_getElem hil, putsR_snoc, List.length_take, Nat.min_eq_left (by omega), Nat.zero_add]
    refine h1.congr (fun k _ => ⟨fun h => by omega, fun h => by omega⟩) (fun k _ _ => ?_)
    by_cases hki : k = i
    · rw [if_pos hki, hki]
    · rw [if_neg hki]

/-- Two frames agree at a slot whose writers are in both or in neither. -/
theorem InvA.agree {D D' : Nat → Prop} {vs : Nat → Value} {a a' : Act} (h : InvA ops n a0 D vs a) (h' : InvA ops n a0 D' vs a') (t : Nat) (ht : ∀ k o, k < n → ops[k]? = some o → o.dst = some t → (D k ↔ D' k)) : a.tmps[t]? = a'.tmps[t]? := by
  by_cases hw : ∃ k o, k < n ∧ ops[k]? = some o ∧ o.dst = some t ∧ D k
  · obtain ⟨k, o, hk, ho, hd, hD⟩ := hw
    rw [h.wr k o t hk ho hD hd, h'.wr k o t hk ho ((ht k o hk ho hd).1 hD) hd]
  · rw [h.no t (fun k o hk ho hD hd => hw ⟨k, o, hk, ho, hd, hD⟩), h'.no t (fun k o hk ho hD hd => hw ⟨k, o, hk, ho, hd, (ht k o hk ho hd).2 hD⟩)]

theorem InvA.uniq {D D' : Nat → Prop} {vs : Nat → Value} {a a' : Act} (h : InvA ops n a0 D vs a) (h' : InvA ops n a0 D' vs a') (hD : ∀ k, k < n → (D k ↔ D' k)) : a = a' := by
  have h1 : a.tmps = a'.tmps := Array.ext_getElem? (fun t => h.agree h' t (fun k _ hk _ _ => hD k hk))
  have h2 : a.defers = a'.defers := h.defs.trans h'.defs.symm
  cases a; cases a'
  cases h1; cases h2; rfl

theorem wanted_congr {o : Oper} {a a' : Act} (h : ∀ t ∈ o.looksAt ops, a.tmps[t]? = a'.tmps[t]?) : Region.wanted o (yielded ops a.tmps) = Region.wanted o (yielded ops a'.tmps) := by
  unfold Region.wanted
  cases hg : o.guard with
  | none => rfl
  | some gw =>
    obtain ⟨g, want⟩ := gw
    have hy : yielded ops a.tmps g = yielded ops a'.tmps g := by
      unfold yielded
      cases hd : (ops[g]?).bind (·.dst) with
      | none => rfl
      | some d =>
        have hm : d ∈ o.looksAt ops := by
          unfold Oper.looksAt
          rw [hg]
          exact List.mem_append_right _ (by simp [hd])
        simp [h d hm]
    simp only [hy]

theorem eval_congr {o : Oper} (hs : ∀ cs b, o.op ≠ .select cs b) {a a' : Act} (h : ∀ t ∈ o.looksAt ops, a.tmps[t]? = a'.tmps[t]?) : execOp a.eval o = execOp a'.eval o :=
  execOp_congr o hs fun x hx => by
    cases x with
    | tmp t =>
      have hm : t ∈ o.looksAt ops := List.mem_append_left _ (List.mem_filterMap.2 ⟨.tmp t, by simpa using hx, rfl⟩)
      simp [Act.eval, h t hm]
    | _ => rfl

/-- A step shown at one frame serves at another one that it cannot tell from it. -/
theorem wp_transfer {o : Oper} {a A : Act} {w : World} {K1 K2 : Act → World → Prop} {Q : Exit → Act → World → Prop} (he : execOp a.eval o = execOp A.eval o) (hA : A.defers = [])
    (hK : ∀ v w', K1 (A.put o.dst v) w' → K2 (a.put o.dst v) w') (hd : ∀ a' w', K1 a' w' → a'.defers = []) (h : o.wp P A w K1 (fun _ _ _ => False)) : o.wp P a w K2 Q := by
  unfold Oper.wp at *
  rw [he]
  generalize (execOp A.eval o).run P w = r at *
  cases r with
  | ok x w' =>
    cases x <;> simp only [Oper.upon] at h ⊢
    case value v => exact hK v w' h
    case skip => exact hK _ w' h
    case defer d =>
      have := hd _ _ h
      cases ho : o.dst <;> simp [Act.put, ho] at this
    case enter f args =>
      refine h.mono (fun e w'' he => ?_)
      cases e with
      | returned v => exact hK v w'' he
      | panicked c => exact he.elim
      | outgrown =>
        obtain ⟨_, _, hh⟩ := he
        exact hh.elim
    case row row args => exact Rows.mono h (fun v w'' he => hK v w'' he)
  | halt x w' =>
    cases x <;> simp only [Oper.upon] at h ⊢

theorem valOf_put {o : Oper} {a : Act} {d : Nat} {v : Value} (hd : o.dst = some d) (hlt : d < a.tmps.size) : valOf o (a.put o.dst v) = v := by
  unfold valOf
  rw [hd]
  simp [Act.put, hlt]

/-- How many of the first n are not listed yet. -/
def unl (listed : Array Bool) (n : Nat) : Nat := ((List.range n).filter fun k => !listed.getD k false).length

theorem unl_zero {listed : Array Bool} {n : Nat} (h : unl listed n = 0) (k : Nat) (hk : k < n) : listed.getD k false = true := by
  have h1 := List.eq_nil_of_length_eq_zero h
  have h2 := List.filter_eq_nil_iff.1 h1 k (List.mem_range.2 hk)
  simpa using h2

theorem unl_pos {listed : Array Bool} {n f : Nat} (h : unl listed n = f + 1) : ∃ i, i < n ∧ listed.getD i false = false ∧ ∀ k, k < i → listed.getD k false = true := by
  have hex : ∃ i, i < n ∧ listed.getD i false = false := by
    unfold unl at h
    obtain ⟨i, hi⟩ := List.exists_mem_of_length_pos (l := (List.range n).filter fun k => !listed.getD k false) (by omega)
    obtain ⟨h1, h2⟩ := List.mem_filter.1 hi
    exact ⟨i, List.mem_range.1 h1, by simpa using h2⟩
  clear h
  obtain ⟨i, hi⟩ := hex
  induction i using Nat.strongRecOn with
  | _ i ih =>
    by_cases hall : ∀ k, k < i → listed.getD k false = true
    · exact ⟨i, hi.1, hi.2, hall⟩
    · have : ∃ k, k < i ∧ listed.getD k false = false := by
        apply Classical.byContradiction
        intro hno
        exact hall fun k hk => by
          cases hl : listed.getD k false with
          | true => rfl
          | false => exact absurd ⟨k, hk, hl⟩ hno
      obtain ⟨k, hk, hkl⟩ := this
      exact ih k hk ⟨by omega, hkl⟩

theorem unl_set {listed : Array Bool} {n f i : Nat} (h : unl listed n = f + 1) (hi : i < n) (hs : i < listed.size) (hl : listed.getD i false = false) : unl (listed.setIfInBounds i true) n = f := by
  have hcount : ∀ m, i < m → unl (listed.setIfInBounds i true) m + 1 = unl listed m := by
    intro m
    induction m with
    | zero => intro hm; omega
    | succ m ih =>
      intro hm
      have e1 : ∀ (L : Array Bool), unl L (m + 1) = unl L m + (if L.getD m false then 0 else 1) := by
        intro L
        unfold unl
        rw [List.range_succ, List.filter_append, List.length_append]
        have e0 : (List.filter (fun k => !L.getD k false) [m]).length = if L.getD m false then 0 else 1 := by
          simp only [List.filter_cons, List.filter_nil]
          cases L.getD m false <;> rfl
        rw [e0]
      rw [e1, e1]
      by_cases hmi : m = i
      · subst hmi
        have hz : ∀ m', m' ≤ m → unl (listed.setIfInBounds m true) m' = unl listed m' := by
          intro m' hm'
          unfold unl
          congr 1
          refine List.filter_congr (fun k hk => ?_)
          have hkm : m ≠ k := by have := List.mem_range.1 hk; omega
          rw [getD_set_ne false hkm]
        rw [hz m (Nat.le_refl _), hl]
        have : (listed.setIfInBounds m true).getD m false = true := by simp [hs]
        rw [this]; simp
      · have hne : i ≠ m := fun e => hmi e.symm
        rw [getD_set_ne false hne]
        have := ih (by omega)
        omega
  have := hcount n hi
  omega

/-- The rest of the region, once the first n have come up: one after another. -/
def restB (ops : Array Oper) (n : Nat) : Bool := Region.seqB .any ops (ops.size - n) n (Array.replicate n true ++ Array.replicate (ops.size - n) false)

def allB (ops : Array Oper) (n N : Nat) : Bool := Region.noSelect ops && regB ops n N && decide (n ≤ ops.size) && (decide (n = ops.size) || (Region.sinkB .any ops n && Region.chainB .any ops n)) && restB ops n

/-- One more is done. -/
def andI (D : Nat → Prop) (i : Nat) : Nat → Prop := fun k => D k ∨ k = i
def setI (vs : Nat → Value) (i : Nat) (v : Value) : Nat → Value := fun k => if k = i then v else vs k

/-- THE STEP that is owed for each operation: J speaks of what is done. -/
def StepJ (P : Program) (ops : Array Oper) (l : List Oper) (a0 : Act) (J : (Nat → Prop) → (Nat → Value) → World → Prop) (i : Nat) (o : Oper) : Prop :=
  ∀ (D : Nat → Prop) (vs : Nat → Value) (w : World), ¬ D i → (∀ j, waitsOn o j = true → D j) → (∀ k ok, ops[k]? = some ok → D k → ∀ j, waitsOn ok j = true → D j) → J D vs w →
    IfW (Region.wanted o (yielded ops (putsR (l.take i) 0 a0 vs).tmps)) (o.wp P (putsR (l.take i) 0 a0 vs) w (fun a' w' => a'.defers = [] ∧ J (andI D i) (setI vs i (valOf o a')) w') (fun _ _ _ => False)) (J (andI D i) (setI vs i undef) w)

theorem any_of_J {J : (Nat → Prop) → (Nat → Value) → World → Prop} {l : List Oper} {Q : Exit → Act → World → Prop} (hl : l.toArray = ops) (hB : allB ops n N = true) (hN : a0.tmps.size = N) (hdef : a0.defers = [])
    (hJ : ∀ D D' vs vs' w, J D vs w → (∀ k, k < n → (D k ↔ D' k)) → (∀ k, k < n → D k → vs k = vs' k) → J D' vs' w)
    (hS : ∀ i o, i < n → ops[i]? = some o → StepJ P ops l a0 J i o)
    (hF : ∀ D vs w, (∀ k, k < n → D k) → J D vs w → wpList P ops Q (l.drop n) (putsR (l.take n) 0 a0 vs) w) :
    ∀ (f : Nat) (listed : Array Bool) (vs : Nat → Value) (a : Act) (w : World), HeadInv .any ops n listed → unl listed n = f → InvA ops n a0 (fun k => listed.getD k false = true) vs a →
      J (fun k => listed.getD k false = true) vs w → wpAny P .any ops Q (f + (ops.size - n)) listed a w := by
  simp only [allB, Bool.and_eq_true, decide_eq_true_eq, Bool.or_eq_true] at hB
  obtain ⟨⟨⟨⟨hsel, hreg⟩, hnle⟩, htail⟩, hrest⟩ := hB
  have hr := regB_ok hreg
  have hnl : n ≤ l.length := by rw [← hl] at hnle; simpa using hnle
  intro f
  induction f with
  | zero =>
    intro listed vs a w inv hu hia hphi
    have hall := unl_zero hu
    have ha : a = putsR (l.take n) 0 a0 vs := hia.uniq (puts_inv hl hr hN hnl vs n (Nat.le_refl _)) (fun k hk => ⟨fun _ => hk, fun _ => hall k hk⟩)
    have hlist : listed = Array.replicate n true ++ Array.replicate (ops.size - n) false := by
      refine Array.ext_getElem? (fun t => ?_)
      by_cases htn : t < n
      · have h1 := hall t htn
        have hts : t < listed.size := by rw [inv.size]; omega
        have h2 : listed[t]? = some true := by
          rw [Array.getD_eq_getD_getElem?, Array.getElem?_eq_getElem hts] at h1
          rw [Array.getElem?_eq_getElem hts]
          simpa using h1
        rw [h2, Array.getElem?_append_left (by simpa using htn)]
        simp [htn]
      · by_cases hts : t < ops.size
        · have h1 := inv.tail t (by omega) hts
          have hts' : t < listed.size := by rw [inv.size]; exact hts
          have h2 : listed[t]? = some false := by
            rw [Array.getD_eq_getD_getElem?, Array.getElem?_eq_getElem hts'] at h1
            rw [Array.getElem?_eq_getElem hts']
            simpa using h1
          have h3 : t - n < ops.size - n := by omega
          rw [h2, Array.getElem?_append_right (by simpa using Nat.le_of_not_lt htn)]
          simp [h3]
        · rw [Array.getElem?_eq_none (by rw [inv.size]; omega), Array.getElem?_eq_none (by simp; omega)]
    have hdl : (l.drop n).length = ops.size - n := by rw [← hl]; simp
    have := wpAny_of_seq (ops := ops) (P := P) (md := .any) (Q' := Q) (l.drop n) n listed a w (fun j => by rw [← hl]; simp [List.getElem?_drop]) (by rw [hdl, hlist]; exact hrest) (by
      rw [ha]
      exact hF _ vs w (fun k hk => hall k hk) hphi)
    rw [hdl] at this
    rw [Nat.zero_add]
    exact this
  | succ f ih =>
    intro listed vs a w inv hu hia hphi
    rw [show f + 1 + (ops.size - n) = (f + (ops.size - n)) + 1 by omega]
    obtain ⟨i0, hi0n, hi0l, hi0b⟩ := unl_pos hu
    have hi0s : i0 < listed.size := by rw [inv.size]; omega
    refine ⟨fun hno => ?_, fun i hi => ?_⟩
    · exfalso
      have ho : ∃ o, ops[i0]? = some o := ⟨ops[i0]'(by omega), Array.getElem?_eq_getElem (by omega)⟩
      obtain ⟨o, ho⟩ := ho
      have : i0 ∈ Region.ready .any ops listed := mem_ready.2 ⟨getD_in hi0s hi0l, o, ho, fun e he hb => hi0b _ (hr.back i0 o e hi0n ho he hb)⟩
      rw [hno] at this
      cases this
    · obtain ⟨hun, o, ho, hall⟩ := mem_ready.1 hi
      have hilt : i < ops.size := (Array.getElem?_eq_some_iff.1 ho).1
      have hin : i < n := by
        rcases Nat.lt_or_ge i n with h | h
        · exact h
        · rcases htail with h' | ⟨hs, hc⟩
          · omega
          · have hnlt : n < ops.size := by omega
            exact absurd hi (tail_waits hs hc hnlt inv _ i0 rfl hi0n (getD_in hi0s hi0l) i h)
      have hil : listed.getD i false = false := getD_both hun
      have his : i < listed.size := by rw [inv.size]; exact hilt
      have hA := puts_inv hl hr hN hnl vs i (Nat.le_of_lt hin)
      have hag : ∀ t ∈ o.looksAt ops, a.tmps[t]? = (putsR (l.take i) 0 a0 vs).tmps[t]? := by
        intro t ht
        refine hia.agree hA t (fun k ok hk hok hd => ?_)
        by_cases hki : k = i
        · subst hki
          exact ⟨fun h => (by rw [hil] at h; cases h), fun h => absurd h (Nat.lt_irrefl _)⟩
        · rcases hr.look i k o ok t hin hk ho hok hki hd ht with ⟨h1, h2⟩ | ⟨h1, h2⟩
          · refine ⟨fun _ => h1, fun _ => ?_⟩
            obtain ⟨e, he', hb⟩ := List.any_eq_true.1 h2
            have he := Array.mem_toList_iff.1 he'
            simp only [Bool.and_eq_true, beq_iff_eq] at hb
            have := hall e he hb.1
            rwa [hb.2] at this
          · refine ⟨fun hkl => ?_, fun h => by omega⟩
            exfalso
            obtain ⟨e, he', hb⟩ := List.any_eq_true.1 h2
            have he := Array.mem_toList_iff.1 he'
            simp only [Bool.and_eq_true, beq_iff_eq] at hb
            have := inv.closed k ok hok hkl e he hb.1
            rw [hb.2, hil] at this
            cases this
      have hpre : ∀ j, waitsOn o j = true → listed.getD j false = true := by
        intro j hj
        obtain ⟨e, he', hb⟩ := List.any_eq_true.1 hj
        have he := Array.mem_toList_iff.1 he'
        simp only [Bool.and_eq_true, beq_iff_eq] at hb
        have h1 := hall e he hb.1
        rwa [hb.2] at h1
      have hcl : ∀ k ok, ops[k]? = some ok → listed.getD k false = true → ∀ j, waitsOn ok j = true → listed.getD j false = true := by
        intro k ok hok hkl j hj
        obtain ⟨e, he', hb⟩ := List.any_eq_true.1 hj
        have he := Array.mem_toList_iff.1 he'
        simp only [Bool.and_eq_true, beq_iff_eq] at hb
        have := inv.closed k ok hok hkl e he hb.1
        rwa [hb.2] at this
      have hst := hS i o hin ho _ vs w (by rw [hil]; exact Bool.noConfusion) hpre hcl hphi
      have key : ∀ (v : Value) (w' : World), J (andI (fun k => listed.getD k false = true) i) (setI vs i v) w' → wpAny P .any ops Q (f + (ops.size - n)) (listed.setIfInBounds i true) (a.put o.dst v) w' := by
        intro v w' hp
        have hD : ∀ k, k < n → ((listed.getD k false = true ∨ k = i) ↔ (listed.setIfInBounds i true).getD k false = true) := fun k hk => by
          by_cases hki : k = i
          · subst hki
            simp [his]
          · have hne : i ≠ k := fun e => hki e.symm
            rw [getD_set_ne false hne]
            simp [hki]
        have hia' := (hia.put hr hN hin ho (by rw [hil]; simp) v).congr (D' := fun k => (listed.setIfInBounds i true).getD k false = true) (vs' := setI vs i v) hD (fun _ _ _ => rfl)
        exact ih _ _ _ _ (inv.set hi hin) (unl_set hu hin his hil) hia' (hJ _ _ _ _ _ hp hD (fun _ _ _ => rfl))
      unfold wpOp
      rw [ho]
      simp only
      rw [wanted_congr hag]
      split
      · rename_i hw
        have hst := hst.1 hw
        left
        refine wp_transfer (eval_congr (Region.noSelect_spec hsel i o · · ho) hag) (by rw [hA.defs, hdef]) ?_ (fun a' w' h => h.1) hst
        intro v w' h
        obtain ⟨_, h2⟩ := h
        cases hdst : o.dst with
        | some d =>
          have hsz : d < (putsR (l.take i) 0 a0 vs).tmps.size := by rw [hA.size, hN]; exact hr.dst i o d hin ho hdst
          rw [valOf_put hdst hsz] at h2
          rw [← hdst]
          exact key v w' h2
        | none =>
          have e1 : valOf o ((putsR (l.take i) 0 a0 vs).put o.dst v) = undef := by unfold valOf; rw [hdst]
          rw [e1] at h2
          have h3 := key undef w' h2
          rw [hdst] at h3
          exact h3
      · rename_i hw
        have hst := hst.2 (by simpa using hw)
        exact key undef w hst


/-- **THE REGION**: n operations in any order that their waits allow; then the others, one after another. -/
theorem wp_region_J {J : (Nat → Prop) → (Nat → Value) → World → Prop} {id : Nat} {l : List Oper} {Q : Exit → Act → World → Prop} {w : World} (n N : Nat) (hm : P.follows .mixedOrders = true) (hN : a0.tmps.size = N) (hdef : a0.defers = []) (hB : allB l.toArray n N = true)
    (hJ : ∀ D D' vs vs' w, J D vs w → (∀ k, k < n → (D k ↔ D' k)) → (∀ k, k < n → D k → vs k = vs' k) → J D' vs' w)
    (h0 : J (fun _ => False) (fun _ => undef) w.drew)
    (hS : ∀ i o, i < n → l.toArray[i]? = some o → StepJ P l.toArray l a0 J i o)
    (hF : ∀ D vs w', (∀ k, k < n → D k) → J D vs w' → wpList P l.toArray Q (l.drop n) (putsR (l.take n) 0 a0 vs) w') :
    (Code.region id l.toArray true).wp P Q a0 w := by
  have hn : n ≤ l.toArray.size := by simp only [allB, Bool.and_eq_true, decide_eq_true_eq] at hB; exact hB.1.1.2
  refine wp_region_any hm ?_
  have H := any_of_J (P := P) (J := J) (Q := Q) (l := l) rfl hB hN hdef hJ hS hF n (Array.replicate l.toArray.size false) (fun _ => undef) a0 w.drew
    ⟨by simp, fun j oj _ hl => (by rw [getD_replicate_false] at hl; cases hl), fun t _ ht => getD_in (by simpa using ht) (getD_replicate_false _ _)⟩
    (by unfold unl; rw [List.filter_eq_self.2 (fun k _ => by rw [getD_replicate_false]; rfl), List.length_range])
    ⟨rfl, rfl, fun k o d _ _ h => (by rw [getD_replicate_false] at h; cases h), fun _ _ => rfl⟩ (hJ _ _ _ _ _ h0 (fun k _ => by rw [getD_replicate_false]; simp) (fun _ _ h => h.elim))
  rw [show n + (l.toArray.size - n) = l.toArray.size by omega] at H
  exact H
end

end Am
end Go.Proofs.Ytpnoklbijfmoaaa

/-
  THE ABSTRACT MACHINE, 10: A REGION THAT DRAWS ITS ORDER, reckoned in the order of its text. No condition; nothing of the program.
-/
set_option linter.unusedVariables false
set_option linter.unusedSimpArgs false
namespace Go.Proofs.Ytpnoklbijfmoaaa
open Go.RowKit

section
variable {P : Program} {T : TypeId → Option TI} {ops : Array Oper} {s s' : AS} {o : Oper}

/-- An operation that makes a value of data alone. -/
def EvX (P : Program) (s : AS) (o : Oper) (av : AV) : Prop := ∀ (ρ : Rho) (B : BS) (w : World) (a : Act), (∀ x ∈ o.op.operands, ∀ av', geto s x = some av' → AR ρ B w av' (a.eval x)) → ∃ v, (execOp a.eval o).run P w = .ok (.value v) w ∧ AR ρ B w av v
/-- One operation makes s out of s. -/
inductive OpS (P : Program) (T : TypeId → Option TI) (ops : Array Oper) (o : Oper) (s : AS) : AS → Prop
  | V (av : AV) (h : evV T s o.op = some av) (hg : gst ops s o = some true := by rfl) (hd : dok o.dst s.n = true := by rfl) : OpS P T ops o s (s.put o.dst av)
  | B (av : AV) (h : evB T s o.op = some av) (hg : gst ops s o = some true := by rfl) (hd : dok o.dst s.n = true := by rfl) : OpS P T ops o s (s.put o.dst av)
  | G (hg : gst ops s o = some false) (hd : dok o.dst s.n = true) : OpS P T ops o s (s.put o.dst .dead)
  | N (ob : AO) (h : evN T s o.op = some ob) (d : Nat) (hdst : o.dst = some d) (hfr : lk s.hp d = none) (hg : gst ops s o = some true := by rfl) (hd : dok (some d) s.n = true := by rfl) : OpS P T ops o s (s.mk' d ob)
  | X (av : AV) (h : EvX P s o av) (hg : gst ops s o = some true := by rfl) (hd : dok o.dst s.n = true := by rfl) : OpS P T ops o s (s.put o.dst av)
  | S (id : Nat) (ob : AO) (h : evS T s o.op = some (id, ob)) (hdst : o.dst = none) (hg : gst ops s o = some true := by rfl) : OpS P T ops o s ⟨s.n, s.sl, (id, ob) :: s.hp⟩
  | C {c : Call} {f : FuncId} {cap ds : List DV} {res : AV} (h : ACall P f (ds ++ cap) res) (hc : callOf o.op = some c) (hf : fnOf s c.callee = some (f, cap)) (ha : getds s c.args.toList = some ds) (hg : gst ops s o = some true := by rfl) (hd : dok o.dst s.n = true := by rfl) : OpS P T ops o s (s.put o.dst res)

/-- One after another. -/
inductive Ch (P : Program) (T : TypeId → Option TI) (ops : Array Oper) : List Oper → AS → AS → Prop
  | nil (s : AS) : Ch P T ops [] s s
  | cons {o : Oper} {l : List Oper} {s s1 s2 : AS} (h : OpS P T ops o s s1) (k : Ch P T ops l s1 s2) : Ch P T ops (o :: l) s s2

theorem Ch.st {l : List Oper} {s s' : AS} (h : Ch P T ops l s s') : ∃ st : Nat → AS, st 0 = s ∧ st l.length = s' ∧ ∀ i o, l[i]? = some o → OpS P T ops o (st i) (st (i + 1)) := by
  induction h with
  | nil s => exact ⟨fun _ => s, rfl, rfl, fun i o h => by simp at h⟩
  | cons h k ih =>
    rename_i o l s s1 s2
    obtain ⟨st, h1, h2, h3⟩ := ih
    refine ⟨fun i => match i with | 0 => s | i + 1 => st i, rfl, h2, fun i o' ho => ?_⟩
    cases i with
    | zero =>
      obtain rfl : o = o' := by simpa using ho
      show OpS P T ops o s (st 0)
      rw [h1]; exact h
    | succ i => exact h3 i o' (by simpa using ho)

/-! ### An operation looks at its operands alone -/
theorem getps_congr {s s' : AS} : ∀ (l : List (Nat × Operand)), (∀ p ∈ l, geto s p.2 = geto s' p.2) → getps s l = getps s' l
  | [], _ => rfl
  | (i, x) :: r, h => by
    unfold getps
    rw [h (i, x) (by simp), getps_congr r (fun p hp => h p (by simp [hp]))]
theorem getls_congr {s s' : AS} : ∀ (l : List Operand), (∀ x ∈ l, geto s x = geto s' x) → getls s l = getls s' l
  | [], _ => rfl
  | x :: r, h => by
    unfold getls
    rw [h x (by simp), getls_congr r (fun p hp => h p (by simp [hp]))]
theorem getds_congr {s s' : AS} : ∀ (l : List Operand), (∀ x ∈ l, geto s x = geto s' x) → getds s l = getds s' l
  | [], _ => rfl
  | x :: r, h => by
    unfold getds
    rw [h x (by simp), getds_congr r (fun p hp => h p (by simp [hp]))]

theorem evV_congr {op : Op} (hhp : s.hp = s'.hp) (h : ∀ x ∈ op.operands, geto s x = geto s' x) : evV T s op = evV T s' op := by
  have hint : ∀ x ∈ op.operands, ints2 s x = ints2 s' x := fun x hx => by unfold ints2; rw [h x hx]
  cases op with
  | move x => exact h x (by simp [Op.operands])
  | assign x => exact h x (by simp [Op.operands])
  | pick c a b => simp only [evV]; rw [h c (by simp [Op.operands]), h a (by simp [Op.operands]), h b (by simp [Op.operands])]
  | load t x => simp only [evV]; rw [h x (by simp [Op.operands]), hhp]
  | binOp op t x y yt => simp only [evV]; rw [h x (by simp [Op.operands]), h y (by simp [Op.operands])]
  | unOp op t x => simp only [evV]; rw [h x (by simp [Op.operands])]
  | convert src dst x => simp only [evV]; rw [h x (by simp [Op.operands])]
  | fieldAddr t x f => simp only [evV]; rw [h x (by simp [Op.operands])]
  | field t x f => simp only [evV]; rw [h x (by simp [Op.operands])]
  | extract x i => simp only [evV]; rw [h x (by simp [Op.operands])]
  | indexAddr t x ix => simp only [evV]; rw [h x (by simp [Op.operands]), hint ix (by simp [Op.operands]), hhp]
  | slice t x lo hi mx =>
    cases mx with
    | some m => rfl
    | none =>
      have hlo : ∀ d, bndV s lo d = bndV s' lo d := by
        intro d
        cases lo with
        | none => rfl
        | some y => simp only [bndV]; rw [hint y (by simp [Op.operands])]
      have hhi : ∀ d, bndV s hi d = bndV s' hi d := by
        intro d
        cases hi with
        | none => rfl
        | some y => simp only [bndV]; rw [hint y (by simp [Op.operands])]
      simp only [evV, h x (by simp [Op.operands]), hlo, hhi]
  | build t ps =>
    simp only [evV]
    rw [getps_congr ps.toList (fun p hp => h p.2 (by simp only [Op.operands, List.mem_toArray, List.mem_map]; exact ⟨p, hp, rfl⟩))]
  | call c =>
    have hargs : ∀ x ∈ c.args.toList, geto s x = geto s' x := fun x hx => h x (by simp only [Op.operands, Call.operands]; exact Array.mem_append.2 (Or.inr (by simpa using hx)))
    have hl := getls_congr c.args.toList hargs
    simp only [evV]
    rw [hl, hhp]
    split
    · split
      · rename_i x t ha ht
        have hx := hargs x (by rw [ha]; simp)
        rw [hx]
      · rfl
    · rfl
    · rfl
    · rfl
  | makeFunc fn fi caps =>
    have hl := getls_congr caps.toList (fun x hx => h x (by simp only [Op.operands]; exact Array.mem_append.2 (Or.inr (by simpa using hx))))
    cases fn <;> first | rfl | (simp only [evV]; rw [hl])
  | _ => rfl

theorem evN_congr {op : Op} (h : ∀ x ∈ op.operands, geto s x = geto s' x) : evN T s op = evN T s' op := by
  have hi : ∀ x ∈ op.operands, ints2 s x = ints2 s' x := fun x hx => by unfold ints2; rw [h x hx]
  cases op with
  | box t x => simp only [evN]; rw [h x (by simp [Op.operands])]
  | makeSlice t l c => simp only [evN]; rw [hi l (by simp [Op.operands]), hi c (by simp [Op.operands])]
  | _ => rfl

theorem evB_congr {op : Op} (h : ∀ x ∈ op.operands, geto s x = geto s' x) : evB T s op = evB T s' op := by
  cases op with
  | buildSlice t len ps =>
    simp only [evB]
    rw [getps_congr ps.toList (fun p hp => h p.2 (by simp only [Op.operands, List.mem_toArray, List.mem_map]; exact ⟨p, hp, rfl⟩))]
  | _ => rfl

theorem fnOf_congr {c : Call} (h : ∀ x ∈ c.operands, geto s x = geto s' x) : fnOf s c.callee = fnOf s' c.callee := by
  unfold Call.operands at h
  cases hc : c.callee with
  | value x =>
    rw [hc] at h
    simp only [fnOf]
    rw [h x (by simp)]
  | _ => rfl

/-- What is known of some slots. -/
def pickS (sl : List (Nat × AV)) : List Nat → List (Nat × AV)
  | [] => []
  | t :: ts => match lk sl t with
    | some av => (t, av) :: pickS sl ts
    | none => pickS sl ts
theorem lk_pickS {sl : List (Nat × AV)} : ∀ (ts : List Nat) (t : Nat), t ∈ ts → lk (pickS sl ts) t = lk sl t
  | [], t, h => by simp at h
  | u :: ts, t, h => by
    unfold pickS
    by_cases e : u = t
    · subst e
      cases hl : lk sl u with
      | some av => simp only; rw [lk_cons, if_pos rfl]
      | none =>
        simp only
        by_cases hm : u ∈ ts
        · rw [lk_pickS ts u hm, hl]
        · exact pickS_none ts u hm
    · have hm : t ∈ ts := by
        rcases List.mem_cons.1 h with h | h
        · exact absurd h.symm e
        · exact h
      split
      · rw [lk_cons, if_neg e, lk_pickS ts t hm]
      · exact lk_pickS ts t hm
where
  pickS_none : ∀ (ts : List Nat) (t : Nat), ¬ t ∈ ts → lk (pickS sl ts) t = none
  | [], t, _ => rfl
  | u :: ts, t, h => by
    unfold pickS
    simp only [List.mem_cons, not_or] at h
    split
    · rw [lk_cons, if_neg (fun e => h.1 e.symm), pickS_none ts t h.2]
    · exact pickS_none ts t h.2
theorem pickS_mem {sl : List (Nat × AV)} : ∀ (ts : List Nat) (t : Nat) (av : AV), lk (pickS sl ts) t = some av → t ∈ ts ∧ lk sl t = some av
  | [], t, av, h => by cases h
  | u :: ts, t, av, h => by
    unfold pickS at h
    split at h
    · rename_i av' hl
      rw [lk_cons] at h
      split at h
      · rename_i e
        subst e
        cases h
        exact ⟨by simp, hl⟩
      · obtain ⟨h1, h2⟩ := pickS_mem ts t av h
        exact ⟨by simp [h1], h2⟩
    · obtain ⟨h1, h2⟩ := pickS_mem ts t av h
      exact ⟨by simp [h1], h2⟩

theorem gst_congr (h : ∀ t ∈ o.looksAt ops, lk s.sl t = lk s'.sl t) : gst ops s o = gst ops s' o := by
  unfold gst
  cases hg : o.guard with
  | none => rfl
  | some q =>
    obtain ⟨j, want⟩ := q
    simp only
    cases hj : ops.toList[j]? with
    | none => rfl
    | some oj =>
      simp only
      cases hd : oj.dst with
      | none => rfl
      | some d =>
        simp only
        have hj' : ops[j]? = some oj := by rw [← Array.getElem?_toList]; exact hj
        rw [h d (by
          unfold Oper.looksAt
          rw [hg]
          exact List.mem_append_right _ (by simp [hj', hd]))]
end

end Go.Proofs.Ytpnoklbijfmoaaa

/-
  THE ABSTRACT MACHINE, 11: the rule for a region that draws its order. No condition; nothing of the program.
-/
set_option linter.unusedVariables false
set_option linter.unusedSimpArgs false
namespace Go.Proofs.Ytpnoklbijfmoaaa
open Go.RowKit Am

def avh (s : AS) : AV := match s.sl with
  | (_, av) :: _ => av
  | [] => .dead

section
variable {P : Program} {T : TypeId → Option TI} {ops : Array Oper} {o : Oper} {Q : Qs}

theorem OpS.shape {s s' : AS} {d : Nat} (h : OpS P T ops o s s') (hd : o.dst = some d) : s'.n = s.n ∧ s'.sl = (d, avh s') :: s.sl ∧ (s'.hp = s.hp ∨ ∃ ob, lk s.hp d = none ∧ s'.hp = (d, ob) :: s.hp) := by
  cases h with
  | V av h hg hk => simp [AS.put, hd, avh]
  | B av h hg hk => simp [AS.put, hd, avh]
  | X av h hg hk => simp [AS.put, hd, avh]
  | G hg hk => simp [AS.put, hd, avh]
  | C h hc hf ha hg hk => simp [AS.put, hd, avh]
  | N ob h d' hdst hfr hg hk =>
    rw [hd] at hdst
    cases hdst
    exact ⟨rfl, rfl, Or.inr ⟨ob, hfr, rfl⟩⟩
  | S id ob h hdst hg => rw [hd] at hdst; cases hdst

/-- What the states on the way have in common. -/
structure Way (l : List Oper) (n : Nat) (st : Nat → AS) : Prop where
  nn : ∀ i : Nat, i ≤ n → (st i).n = (st 0).n
  sl : ∀ (i : Nat) (o : Oper) (d : Nat), i < n → l[i]? = some o → o.dst = some d → (st (i + 1)).sl = (d, avh (st (i + 1))) :: (st i).sl
  hp : ∀ i j : Nat, i ≤ j → j ≤ n → ∀ (id : Nat) (ob : AO), lk (st i).hp id = some ob → lk (st j).hp id = some ob
  new : ∀ i : Nat, i ≤ n → ∀ (id : Nat) (ob : AO), lk (st i).hp id = some ob → (lk (st 0).hp id).isSome = true ∨ ∃ (k : Nat) (o : Oper), k < i ∧ l[k]? = some o ∧ o.dst = some id

theorem way {l : List Oper} {n : Nat} {st : Nat → AS} (hd : ∀ i o, i < n → l[i]? = some o → ∃ d, o.dst = some d) (hl : n ≤ l.length) (h : ∀ i o, i < n → l[i]? = some o → OpS P T ops o (st i) (st (i + 1))) : Way l n st := by
  have step : ∀ i, i < n → ∃ o d, l[i]? = some o ∧ o.dst = some d ∧ (st (i + 1)).n = (st i).n ∧ (st (i + 1)).sl = (d, avh (st (i + 1))) :: (st i).sl ∧ ((st (i + 1)).hp = (st i).hp ∨ ∃ ob, lk (st i).hp d = none ∧ (st (i + 1)).hp = (d, ob) :: (st i).hp) := by
    intro i hi
    have ho : l[i]? = some (l[i]'(by omega)) := by simp
    obtain ⟨d, hdd⟩ := hd i _ hi ho
    exact ⟨_, d, ho, hdd, (h i _ hi ho).shape hdd⟩
  have hp1 : ∀ i, i < n → ∀ id ob, lk (st i).hp id = some ob → lk (st (i + 1)).hp id = some ob := by
    intro i hi id ob hk
    obtain ⟨o, d, _, _, _, _, h1 | ⟨ob', h1, h2⟩⟩ := step i hi
    · rw [h1]; exact hk
    · rw [h2, lk_cons, if_neg (fun e => by rw [e, hk] at h1; cases h1)]; exact hk
  refine ⟨fun i hi => ?_, fun i o d hi ho hdd => ?_, fun i j hij hj => ?_, fun i => ?_⟩
  · induction i with
    | zero => rfl
    | succ i ih =>
      obtain ⟨o, d, _, _, h1, _⟩ := step i (by omega)
      rw [h1, ih (by omega)]
  · obtain ⟨o', d', h1, h2, _, h3, _⟩ := step i hi
    rw [ho] at h1; cases h1
    rw [hdd] at h2; cases h2
    exact h3
  · induction j with
    | zero =>
      have : i = 0 := by omega
      subst this
      exact fun _ _ h => h
    | succ j ih =>
      intro id ob hk
      by_cases hij' : i = j + 1
      · subst hij'; exact hk
      · exact hp1 j (by omega) id ob (ih (by omega) (by omega) id ob hk)
  · induction i with
    | zero =>
      intro hi id ob hk
      exact Or.inl (by rw [hk]; rfl)
    | succ i ih =>
      intro hi id ob hk
      obtain ⟨o, d, h1, h2, _, _, h3 | ⟨ob', h3, h4⟩⟩ := step i (by omega)
      · rw [h3] at hk
        rcases ih (by omega) id ob hk with h | ⟨k, o', h5, h6⟩
        · exact Or.inl h
        · exact Or.inr ⟨k, o', by omega, h6⟩
      · rw [h4, lk_cons] at hk
        split at hk
        · rename_i e
          exact Or.inr ⟨i, o, by omega, h1, by rw [h2, e]⟩
        · rcases ih (by omega) id ob hk with h | ⟨k, o', h5, h6⟩
          · exact Or.inl h
          · exact Or.inr ⟨k, o', by omega, h6⟩

theorem Way.at {l : List Oper} {n : Nat} {st : Nat → AS} (hw : Way l n st) (hl : n ≤ l.length) (hd : ∀ i o, i < n → l[i]? = some o → ∃ d, o.dst = some d) (hone : ∀ i k oi ok d, i < n → k < n → l[i]? = some oi → l[k]? = some ok → k ≠ i → ok.dst = some d → oi.dst ≠ some d) :
    ∀ (i : Nat), i ≤ n → ∀ (t : Nat), (∀ (k : Nat) (o : Oper), k < i → l[k]? = some o → o.dst = some t → lk (st i).sl t = some (avh (st (k + 1)))) ∧ ((∀ (k : Nat) (o : Oper), k < i → l[k]? = some o → o.dst ≠ some t) → lk (st i).sl t = lk (st 0).sl t)
  | 0, _, t => ⟨fun k o hk => absurd hk (Nat.not_lt_zero _), fun _ => rfl⟩
  | i + 1, hi, t => by
    obtain ⟨ih1, ih2⟩ := Way.at hw hl hd hone i (by omega) t
    have ho : l[i]? = some (l[i]'(by omega)) := by simp
    obtain ⟨d, hdd⟩ := hd i _ (by omega) ho
    rw [hw.sl i _ d (by omega) ho hdd, lk_cons]
    refine ⟨fun k o hk hko hkd => ?_, fun hno => ?_⟩
    · by_cases hki : k = i
      · subst hki
        rw [ho] at hko
        cases hko
        rw [hdd] at hkd
        cases hkd
        rw [if_pos rfl]
      · rw [if_neg (fun e => hone i k _ o t (by omega) (by omega) ho hko hki hkd (by rw [hdd, e]))]
        exact ih1 k o (by omega) hko hkd
    · rw [if_neg (fun e => hno i _ (by omega) ho (by rw [hdd, e]))]
      exact ih2 (fun k o hk hko => hno k o (by omega) hko)

/-- What holds when the operations of D are done. -/
def Jr (l : List Oper) (n : Nat) (st : Nat → AS) (B0 : BS) (w0 : Wz) (a0 : Act) (D : Nat → Prop) (vs : Nat → Value) (w : World) : Prop :=
  ∃ ρ, Core ρ B0 w0 w (st n).hp ∧ (∀ id v, ρ id = some v → (lk (st 0).hp id).isSome = true ∨ ∃ k o, k < n ∧ D k ∧ l[k]? = some o ∧ o.dst = some id) ∧
    (∀ t av, lk (st 0).sl t = some av → (∀ k o, k < n → l[k]? = some o → D k → o.dst ≠ some t) → ∃ v, a0.tmps[t]? = some v ∧ AR ρ (Bd ρ B0) w av v) ∧ (∀ k, k < n → D k → AR ρ (Bd ρ B0) w (avh (st (k + 1))) (vs k))

theorem Jr.congr {l : List Oper} {n : Nat} {st : Nat → AS} {B0 : BS} {w0 : Wz} {a0 : Act} (D D' : Nat → Prop) (vs vs' : Nat → Value) (w : World) (h : Jr l n st B0 w0 a0 D vs w) (hD : ∀ k, k < n → (D k ↔ D' k)) (hv : ∀ k, k < n → D k → vs k = vs' k) : Jr l n st B0 w0 a0 D' vs' w := by
  obtain ⟨ρ, h1, h2, h3, h4⟩ := h
  refine ⟨ρ, h1, fun id v h => ?_, fun t av ht hno => h3 t av ht (fun k o hk ho hDk => hno k o hk ho ((hD k hk).1 hDk)), fun k hk hDk => ?_⟩
  · rcases h2 id v h with h | ⟨k, o, hk, hDk, h⟩
    · exact Or.inl h
    · exact Or.inr ⟨k, o, hk, (hD k hk).1 hDk, h⟩
  · rw [← hv k hk ((hD k hk).2 hDk)]
    exact h4 k hk ((hD k hk).2 hDk)

/-- One more value; the objects are the same ones. -/
theorem Jr.same {l : List Oper} {n : Nat} {st : Nat → AS} {B0 : BS} {w0 : Wz} {a0 : Act} {D : Nat → Prop} {vs : Nat → Value} {w w' : World} {i : Nat} {v : Value} {ρ : Rho} (hb : Below w.heap.size w w') (h1 : Core ρ B0 w0 w (st n).hp)
    (h2 : ∀ id v, ρ id = some v → (lk (st 0).hp id).isSome = true ∨ ∃ k o, k < n ∧ D k ∧ l[k]? = some o ∧ o.dst = some id)
    (h3 : ∀ t av, lk (st 0).sl t = some av → (∀ k o, k < n → l[k]? = some o → D k → o.dst ≠ some t) → ∃ v, a0.tmps[t]? = some v ∧ AR ρ (Bd ρ B0) w av v)
    (h4 : ∀ k, k < n → D k → AR ρ (Bd ρ B0) w (avh (st (k + 1))) (vs k)) (hv : AR ρ (Bd ρ B0) w' (avh (st (i + 1))) v) (hni : ¬ D i) : Jr l n st B0 w0 a0 (andI D i) (setI vs i v) w' := by
  refine ⟨ρ, h1.below hb, fun id u h => ?_, fun t av ht hno => ?_, fun k hk hDk => ?_⟩
  · rcases h2 id u h with h | ⟨k, o, hk, hDk, h⟩
    · exact Or.inl h
    · exact Or.inr ⟨k, o, hk, Or.inl hDk, h⟩
  · obtain ⟨u, h5, h6⟩ := h3 t av ht (fun k o hk ho hDk => hno k o hk ho (Or.inl hDk))
    exact ⟨u, h5, h6.below hb⟩
  · unfold setI
    by_cases e : k = i
    · rw [if_pos e, e]; exact hv
    · rw [if_neg e]
      rcases hDk with hDk | hDk
      · exact (h4 k hk hDk).below hb
      · exact absurd hDk e

theorem wp_value' {a A : Act} {w w' : World} {v : Value} {K : Act → World → Prop} {Qw : Exit → Act → World → Prop} (hr : (execOp A.eval o).run P w = .ok (.value v) w') (hk : K (A.put o.dst v) w') : o.wp P A w K Qw := by
  unfold Oper.wp
  rw [hr]
  exact hk

set_option maxHeartbeats 1000000 in
/-- A REGION THAT DRAWS: n operations in the order of the text, each a value; then the others one after another. -/
theorem cDraw (hT : TOk P T) {id : Nat} {l : List Oper} (n : Nat) {s s1 : AS} (hm : P.follows .mixedOrders = true) (hB : allB l.toArray n s.n = true) (hD : dstB l.toArray n = true) (hch : Ch P T l.toArray (l.take n) s s1) (k : AL P l.toArray Q (l.drop n) s1) : AW P (.region id l.toArray true) Q s := by
  rintro B0 w0 a0 w ⟨ρ0, hc0, hn0, hdf0, hs0⟩
  have hB' := hB
  simp only [allB, Bool.and_eq_true, decide_eq_true_eq, Bool.or_eq_true] at hB'
  obtain ⟨⟨⟨⟨hsel, hreg⟩, hnle⟩, _⟩, _⟩ := hB'
  have hr := regB_ok hreg
  have hnl : n ≤ l.length := by simpa using hnle
  obtain ⟨st, hst0, hstn, hop0⟩ := hch.st
  have hlen : (l.take n).length = n := by simp; omega
  rw [hlen] at hstn
  have hop : ∀ i o, i < n → l[i]? = some o → OpS P T l.toArray o (st i) (st (i + 1)) := fun i o hi ho => hop0 i o (by rw [List.getElem?_take, if_pos hi]; exact ho)
  have hdst : ∀ i o, i < n → l[i]? = some o → ∃ d, o.dst = some d := fun i o hi ho => dstB_ok hD i o hi (by simpa using ho)
  have hone : ∀ i k oi ok d, i < n → k < n → l[i]? = some oi → l[k]? = some ok → k ≠ i → ok.dst = some d → oi.dst ≠ some d := fun i k oi ok d hi hk hoi hok => hr.one i k oi ok d hi hk (by simpa using hoi) (by simpa using hok)
  have hway := way hdst hnl hop
  have hat := hway.at hnl hdst hone
  subst hst0
  refine wp_region_J (J := Jr l n st B0 w0 a0) n (st 0).n hm hn0 hdf0 hB (fun D D' vs vs' w h => Jr.congr D D' vs vs' w h) ?_ ?_ ?_
  · have hK : Keep (Bd ρ0 B0) w w.drew := ⟨Nat.le_refl _, fun _ _ _ => rfl⟩
    refine ⟨ρ0, ⟨hc0.bel.step (Below.refl _ _).drew, hc0.b0, fun id v h => ?_, hc0.dist⟩, fun id v h => ?_, fun t av ht _ => ?_, fun k _ h => h.elim⟩
    · obtain ⟨ob, h1, h2⟩ := hc0.obj id v h
      exact ⟨ob, hway.hp 0 n (Nat.zero_le _) (Nat.le_refl _) id ob h1, h2.mv hK (fun _ _ hb => hb) (fun _ _ => rfl)⟩
    · obtain ⟨ob, h1, h2⟩ := hc0.obj id v h
      exact Or.inl (by rw [h1]; rfl)
    · obtain ⟨v, h1, h2⟩ := hs0 t av ht
      exact ⟨v, h1, AR.mv hK (fun _ _ hb => hb) (fun _ _ => rfl) h2⟩
  · intro i o hi ho D vs w' hni hwait hclo hJ
    have ho' : l[i]? = some o := by simpa using ho
    obtain ⟨d, hd⟩ := dstB_ok hD i o hi ho
    have hdN := hr.dst i o d hi ho hd
    have hA := puts_inv (a0 := a0) (ops := l.toArray) rfl hr hn0 hnl vs i (Nat.le_of_lt hi)
    obtain ⟨ρ, hc, h2, h3, h4⟩ := hJ
    have hSl : Slots ρ (Bd ρ B0) w' (pickS (st i).sl (o.looksAt l.toArray)) (putsR (l.take i) 0 a0 vs) := by
      intro t av ht
      obtain ⟨hts, hlk⟩ := pickS_mem _ t av ht
      by_cases hex : ∃ k ok, k < i ∧ l[k]? = some ok ∧ ok.dst = some t
      · obtain ⟨k, ok, hk, hok, hkd⟩ := hex
        have hok' : l.toArray[k]? = some ok := by simpa using hok
        rw [(hat i (Nat.le_of_lt hi) t).1 k ok hk hok hkd] at hlk
        cases hlk
        refine ⟨vs k, hA.wr k ok t (by omega) hok' hk hkd, h4 k (by omega) ?_⟩
        rcases hr.look i k o ok t hi (by omega) ho hok' (by omega) hkd hts with ⟨_, h⟩ | ⟨h, _⟩
        · exact hwait k h
        · omega
      · have hno : ∀ k ok, k < i → l[k]? = some ok → ok.dst ≠ some t := fun k ok hk hok hkd => hex ⟨k, ok, hk, hok, hkd⟩
        rw [(hat i (Nat.le_of_lt hi) t).2 hno] at hlk
        obtain ⟨v, h5, h6⟩ := h3 t av hlk (fun k ok hk hok hDk hkd => by
          have hok' : l.toArray[k]? = some ok := by simpa using hok
          by_cases hki : k = i
          · subst hki; exact hni hDk
          · rcases hr.look i k o ok t hi hk ho hok' hki hkd hts with ⟨h, _⟩ | ⟨_, h⟩
            · exact hno k ok h hok hkd
            · exact hni (hclo k ok hok' hDk i h))
        refine ⟨v, ?_, h6⟩
        rw [hA.no t (fun k ok hk hok hki => hno k ok hki (by simpa using hok))]
        exact h5
    have hget : ∀ x ∈ o.op.operands, geto (st i) x = geto ⟨(st i).n, pickS (st i).sl (o.looksAt l.toArray), (st i).hp⟩ x := by
      intro x hx
      cases x with
      | tmp t =>
        have hm : t ∈ o.looksAt l.toArray := List.mem_append_left _ (List.mem_filterMap.2 ⟨.tmp t, by simpa using hx, rfl⟩)
        exact (lk_pickS _ t hm).symm
      | const v => cases v <;> rfl
      | _ => rfl
    have hg' : gst l.toArray (st i) o = gst l.toArray ⟨(st i).n, pickS (st i).sl (o.looksAt l.toArray), (st i).hp⟩ o := gst_congr (fun t ht => (lk_pickS _ t ht).symm)
    have hhp := hway.hp i n (Nat.le_of_lt hi) (Nat.le_refl _)
    have hAd : (putsR (l.take i) 0 a0 vs).defers = [] := hA.defs.trans hdf0
    have hAs : d < (putsR (l.take i) 0 a0 vs).tmps.size := by rw [hA.size, hn0]; exact hdN
    have hdef : ∀ v, ((putsR (l.take i) 0 a0 vs).put o.dst v).defers = [] := fun v => by rw [hd]; exact hAd
    have hval : ∀ v, Am.valOf o ((putsR (l.take i) 0 a0 vs).put o.dst v) = v := fun v => Am.valOf_put hd hAs
    have hO := hop i o hi ho'
    have hsh := (hO.shape hd).2.1
    obtain ⟨s2, hs2⟩ : ∃ s2, s2 = st (i + 1) := ⟨_, rfl⟩
    rw [← hs2] at hO hsh
    have havh : ∀ av, s2.sl = (d, av) :: (st i).sl → avh (st (i + 1)) = av := by
      intro av h
      rw [← hs2]
      unfold avh
      rw [h]
    cases hO with
    | V av h hg hk =>
      rw [hg'] at hg
      rw [evV_congr (T := T) (op := o.op) (s := st i) (s' := ⟨(st i).n, pickS (st i).sl (o.looksAt l.toArray), (st i).hp⟩) rfl hget] at h
      obtain ⟨v, hrun, hv⟩ := evV_ok (s := ⟨(st i).n, pickS (st i).sl (o.looksAt l.toArray), (st i).hp⟩) hT hSl hc hhp h
      have hav := havh av (by simp [AS.put, hd])
      refine ifW_pos (gst_ok hg hSl) (wp_value' (a := a0) hrun ⟨hdef v, ?_⟩)
      rw [hval]
      exact Jr.same (Below.refl _ _) hc h2 h3 h4 (by rw [hav]; exact hv) hni
    | B av h hg hk =>
      rw [hg'] at hg
      rw [evB_congr (T := T) (op := o.op) (s := st i) (s' := ⟨(st i).n, pickS (st i).sl (o.looksAt l.toArray), (st i).hp⟩) hget] at h
      obtain ⟨v, w2, hrun, hb, hv⟩ := evB_ok (s := ⟨(st i).n, pickS (st i).sl (o.looksAt l.toArray), (st i).hp⟩) hT hSl hc h
      have hav := havh av (by simp [AS.put, hd])
      refine ifW_pos (gst_ok hg hSl) (wp_value' (a := a0) hrun ⟨hdef v, ?_⟩)
      rw [hval]
      exact Jr.same hb hc h2 h3 h4 (by rw [hav]; exact hv) hni
    | G hg hk =>
      rw [hg'] at hg
      have hav := havh .dead (by simp [AS.put, hd])
      exact ifW_neg (gst_ok hg hSl) (Jr.same (Below.refl _ _) hc h2 h3 h4 (by rw [hav]; trivial) hni)
    | C h hcl hf ha hg hk =>
      rename_i c f cap ds res
      rw [hg'] at hg
      have hop' : o.op = .call c := by
        unfold callOf at hcl
        split at hcl
        · rename_i h; cases hcl; exact h
        · cases hcl
      have hgc : ∀ x ∈ c.operands, geto (st i) x = geto ⟨(st i).n, pickS (st i).sl (o.looksAt l.toArray), (st i).hp⟩ x := fun x hx => hget x (by rw [hop']; exact hx)
      rw [fnOf_congr hgc] at hf
      rw [getds_congr _ (fun x hx => hgc x (Array.mem_append.2 (Or.inr (by simpa using hx))))] at ha
      obtain ⟨us, hus, hrun⟩ := run_call (s := ⟨(st i).n, pickS (st i).sl (o.looksAt l.toArray), (st i).hp⟩) hSl hcl hf ha h.en
      have hav := havh res (by simp [AS.put, hd])
      refine ifW_pos (gst_ok hg hSl) ?_
      unfold Oper.wp
      rw [hrun]
      refine (h.go (Bd ρ B0) w' us hc.bdlt hus).mono ?_
      rintro e w2 ⟨v, rfl, hb, hv⟩
      refine ⟨hdef v, ?_⟩
      rw [hval]
      exact Jr.same hb hc h2 h3 h4 (by rw [hav]; exact hv.lift) hni
    | S id ob h hdst hg => rw [hd] at hdst; cases hdst
    | X av h hg hk =>
      rw [hg'] at hg
      obtain ⟨v, hrun, hv⟩ := h ρ (Bd ρ B0) w' (putsR (l.take i) 0 a0 vs) (fun x hx av' hgx => geto_ok (s := ⟨(st i).n, pickS (st i).sl (o.looksAt l.toArray), (st i).hp⟩) hSl ((hget x hx).symm.trans hgx))
      have hav := havh av (by simp [AS.put, hd])
      refine ifW_pos (gst_ok hg hSl) (wp_value' (a := a0) hrun ⟨hdef v, ?_⟩)
      rw [hval]
      exact Jr.same (Below.refl _ _) hc h2 h3 h4 (by rw [hav]; exact hv) hni
    | N ob h d' hdd hfr hg hk =>
      rw [hd] at hdd
      cases hdd
      rw [hg'] at hg
      rw [evN_congr (T := T) (op := o.op) (s := st i) (s' := ⟨(st i).n, pickS (st i).sl (o.looksAt l.toArray), (st i).hp⟩) hget] at h
      obtain ⟨v, w2, hrun, hb, hvb, hob⟩ := evN_ok (s := ⟨(st i).n, pickS (st i).sl (o.looksAt l.toArray), (st i).hp⟩) hT hSl hc h
      have hav := havh (ob.av d) rfl
      have hnone : (lk (st 0).hp d) = none := by
        cases hq : lk (st 0).hp d with
        | none => rfl
        | some q => rw [hway.hp 0 i (Nat.zero_le _) (Nat.le_of_lt hi) d q hq] at hfr; cases hfr
      have hρ : ρ d = none := by
        cases hq : ρ d with
        | none => rfl
        | some u =>
          rcases h2 d u hq with h5 | ⟨k, ok, hk', hDk, hok, hkd⟩
          · rw [hnone] at h5; cases h5
          · by_cases hki : k = i
            · subst hki; exact absurd hDk hni
            · exact absurd hd (hone i k o ok d hi hk' ho' hok hki hkd)
      have hO2 := hob (Bd (up ρ d v) B0) (up_new hρ hvb)
      have hlast : lk (st n).hp d = some ob := by
        refine hway.hp (i + 1) n (by omega) (Nat.le_refl _) d ob ?_
        rw [← hs2]
        show lk ((d, ob) :: (st i).hp) d = some ob
        rw [lk_cons, if_pos rfl]
      have hc2 : Core (up ρ d v) B0 w0 w2 (st n).hp := hc.new hρ hb hvb (fun _ _ h _ => h) hlast hO2
      refine ifW_pos (gst_ok hg hSl) (wp_value' (a := a0) hrun ⟨hdef v, ?_⟩)
      rw [hval]
      refine ⟨_, hc2, fun id u hu => ?_, fun t av ht hno => ?_, fun k hk' hDk => ?_⟩
      · unfold up at hu
        split at hu
        · rename_i e
          exact Or.inr ⟨i, o, hi, Or.inr rfl, ho', by rw [hd, e]⟩
        · rcases h2 id u hu with h5 | ⟨k, ok, hk', hDk, h5⟩
          · exact Or.inl h5
          · exact Or.inr ⟨k, ok, hk', Or.inl hDk, h5⟩
      · obtain ⟨u, h5, h6⟩ := h3 t av ht (fun k o hk ho hDk => hno k o hk ho (Or.inl hDk))
        exact ⟨u, h5, h6.new hρ hb hvb⟩
      · unfold setI
        by_cases e : k = i
        · rw [if_pos e, e, hav]
          exact AO.av_ok hO2 (by simp [up])
        · rw [if_neg e]
          rcases hDk with hDk | hDk
          · exact (h4 k hk' hDk).new hρ hb hvb
          · exact absurd hDk e
  · intro D vs w' hall hJ
    obtain ⟨ρ, hc, h2, h3, h4⟩ := hJ
    have hA := puts_inv (a0 := a0) (ops := l.toArray) rfl hr hn0 hnl vs n (Nat.le_refl _)
    rw [← hstn] at k
    refine k B0 w0 _ w' ⟨ρ, hc, ?_, hA.defs.trans hdf0, fun t av ht => ?_⟩
    · rw [hA.size, hn0, hway.nn n (Nat.le_refl _)]
    · by_cases hex : ∃ k ok, k < n ∧ l[k]? = some ok ∧ ok.dst = some t
      · obtain ⟨k, ok, hk, hok, hkd⟩ := hex
        rw [(hat n (Nat.le_refl _) t).1 k ok hk hok hkd] at ht
        cases ht
        exact ⟨vs k, hA.wr k ok t hk (by simpa using hok) hk hkd, h4 k hk (hall k hk)⟩
      · have hno : ∀ k ok, k < n → l[k]? = some ok → ok.dst ≠ some t := fun k ok hk hok hkd => hex ⟨k, ok, hk, hok, hkd⟩
        rw [(hat n (Nat.le_refl _) t).2 hno] at ht
        obtain ⟨v, h5, h6⟩ := h3 t av ht (fun k ok hk hok _ => hno k ok hk hok)
        refine ⟨v, ?_, h6⟩
        rw [hA.no t (fun k ok hk hok _ => hno k ok hk (by simpa using hok))]
        exact h5
end

end Go.Proofs.Ytpnoklbijfmoaaa

/-
  THE ABSTRACT MACHINE, 12: append; a row or a variable that is written no more; an empty row taken for the frame's own. No condition; nothing of the program.
-/
set_option linter.unusedVariables false
set_option linter.unusedSimpArgs false
namespace Go.Proofs.Ytpnoklbijfmoaaa
open Go.RowKit

/-- Strike an object. -/
def dk : List (Nat × AO) → Nat → List (Nat × AO)
  | [], _ => []
  | (k, x) :: l, t => bif Nat.beq k t then dk l t else (k, x) :: dk l t
theorem lk_dk : ∀ (l : List (Nat × AO)) (t u : Nat), lk (dk l t) u = if t = u then none else lk l u
  | [], t, u => by simp [dk, lk]
  | (k, x) :: l, t, u => by
    unfold dk
    by_cases h : k = t
    · rw [show Nat.beq k t = true from by rw [h]; exact Nat.beq_refl t, cond_true, lk_dk l t u, lk_cons]
      by_cases hu : t = u
      · rw [if_pos hu, if_pos hu]
      · rw [if_neg hu, if_neg hu, if_neg (by omega)]
    · rw [show Nat.beq k t = false from by rw [← Bool.not_eq_true]; exact fun e => h (Nat.eq_of_beq_eq_true e), cond_false, lk_cons, lk_cons, lk_dk l t u]
      by_cases hk : k = u
      · rw [if_pos hk, if_pos hk, if_neg (by omega)]
      · rw [if_neg hk, if_neg hk]

/-- What spoke of the object id says x, or nothing. -/
def fz (av : AV) (id : Nat) (own : AV) (ptr : Nat → AV) : AV := match av with
  | .own k => bif Nat.beq k id then own else .own k
  | .ptr k off => bif Nat.beq k id then ptr off else .ptr k off
  | .eptr k sz i j => bif Nat.beq k id then .dead else .eptr k sz i j
  | .lim k j => bif Nat.beq k id then .dead else .lim k j
  | .ptup k j => bif Nat.beq k id then .dead else .ptup k j
  | .wit k => bif Nat.beq k id then .dead else .wit k
  | av => av
def fzs (id : Nat) (own : AV) (ptr : Nat → AV) : List (Nat × AV) → List (Nat × AV)
  | [] => []
  | (t, av) :: l => (t, fz av id own ptr) :: fzs id own ptr l
theorem lk_fzs {id : Nat} {own : AV} {ptr : Nat → AV} : ∀ (l : List (Nat × AV)) (t : Nat) (av : AV), lk (fzs id own ptr l) t = some av → ∃ av', lk l t = some av' ∧ av = fz av' id own ptr
  | [], t, av, h => by cases h
  | (k, x) :: l, t, av, h => by
    unfold fzs at h
    rw [lk_cons] at h ⊢
    split at h
    · rename_i e; cases h; rw [if_pos e]; exact ⟨x, rfl, rfl⟩
    · rename_i e; rw [if_neg e]; exact lk_fzs l t av h

/-- Without the object id. -/
def less (ρ : Rho) (id : Nat) : Rho := fun k => if k = id then none else ρ k

theorem AR.fz {ρ : Rho} {B0 : BS} {w : World} {av own : AV} {ptr : Nat → AV} {id : Nat} {c v : Value} (hid : ρ id = some v) (h : AR ρ (Bd ρ B0) w av c) (hown : (∃ a n cap, v = .slice a n cap) → AR (less ρ id) (Bd (less ρ id) B0) w own v)
    (hptr : ∀ g off, v = .pointer (some ⟨g, 0, none⟩) → AR (less ρ id) (Bd (less ρ id) B0) w (ptr off) (.pointer (some ⟨g, off, none⟩))) : AR (less ρ id) (Bd (less ρ id) B0) w (Go.Proofs.Ytpnoklbijfmoaaa.fz av id own ptr) c := by
  have hK : Keep (Bd ρ B0) w w := ⟨Nat.le_refl _, fun _ _ _ => rfl⟩
  have hB : ∀ b, b < w.heap.size → Bd (less ρ id) B0 b → Bd ρ B0 b := by
    rintro b _ (h | ⟨k, u, h1, h2⟩)
    · exact Or.inl h
    · unfold less at h1
      split at h1
      · cases h1
      · exact Or.inr ⟨k, u, h1, h2⟩
  have keep : (∀ k, av.on k = true → k ≠ id) → AR (less ρ id) (Bd (less ρ id) B0) w av c := fun hne => AR.mv hK hB (fun k hk => by unfold less; rw [if_neg (hne k hk)]) h
  cases av with
  | own k =>
    show AR _ _ _ (bif Nat.beq k id then own else .own k) c
    by_cases e : k = id
    · subst e
      rw [Nat.beq_refl, cond_true]
      obtain ⟨h1, h2⟩ := h
      rw [hid] at h1; cases h1
      exact hown h2
    · rw [show Nat.beq k id = false from by rw [← Bool.not_eq_true]; exact fun h => e (Nat.eq_of_beq_eq_true h), cond_false]
      exact keep (fun k' hk' => by have : k = k' := Nat.eq_of_beq_eq_true hk'; omega)
  | ptr k off =>
    show AR _ _ _ (bif Nat.beq k id then ptr off else .ptr k off) c
    by_cases e : k = id
    · subst e
      rw [Nat.beq_refl, cond_true]
      obtain ⟨g, h1, rfl⟩ := h
      rw [hid] at h1; cases h1
      exact hptr g off rfl
    · rw [show Nat.beq k id = false from by rw [← Bool.not_eq_true]; exact fun h => e (Nat.eq_of_beq_eq_true h), cond_false]
      exact keep (fun k' hk' => by have : k = k' := Nat.eq_of_beq_eq_true hk'; omega)
  | eptr k sz i j =>
    show AR _ _ _ (bif Nat.beq k id then .dead else .eptr k sz i j) c
    by_cases e : k = id
    · subst e
      rw [Nat.beq_refl, cond_true]
      trivial
    · rw [show Nat.beq k id = false from by rw [← Bool.not_eq_true]; exact fun h => e (Nat.eq_of_beq_eq_true h), cond_false]
      exact keep (fun k' hk' => by have : k = k' := Nat.eq_of_beq_eq_true hk'; omega)
  | lim k j =>
    show AR _ _ _ (bif Nat.beq k id then .dead else .lim k j) c
    by_cases e : k = id
    · subst e
      rw [Nat.beq_refl, cond_true]
      trivial
    · rw [show Nat.beq k id = false from by rw [← Bool.not_eq_true]; exact fun h => e (Nat.eq_of_beq_eq_true h), cond_false]
      exact keep (fun k' hk' => by have : k = k' := Nat.eq_of_beq_eq_true hk'; omega)
  | ptup k j =>
    show AR _ _ _ (bif Nat.beq k id then .dead else .ptup k j) c
    by_cases e : k = id
    · subst e
      rw [Nat.beq_refl, cond_true]
      trivial
    · rw [show Nat.beq k id = false from by rw [← Bool.not_eq_true]; exact fun h => e (Nat.eq_of_beq_eq_true h), cond_false]
      exact keep (fun k' hk' => by have : k = k' := Nat.eq_of_beq_eq_true hk'; omega)
  | wit k =>
    show AR _ _ _ (bif Nat.beq k id then .dead else .wit k) c
    by_cases e : k = id
    · subst e
      rw [Nat.beq_refl, cond_true]
      trivial
    · rw [show Nat.beq k id = false from by rw [← Bool.not_eq_true]; exact fun h => e (Nat.eq_of_beq_eq_true h), cond_false]
      exact keep (fun k' hk' => by have : k = k' := Nat.eq_of_beq_eq_true hk'; omega)
  | d x => exact keep (fun k hk => by cases hk)
  | tup x => exact keep (fun k hk => by cases hk)
  | dead => trivial

theorem Core.less {ρ : Rho} {B0 : BS} {w0 : Wz} {w : World} {hp : List (Nat × AO)} {id : Nat} (h : Core ρ B0 w0 w hp) : Core (less ρ id) B0 w0 w (dk hp id) := by
  have hK : Keep (Bd ρ B0) w w := ⟨Nat.le_refl _, fun _ _ _ => rfl⟩
  have hsub : ∀ k v, Go.Proofs.Ytpnoklbijfmoaaa.less ρ id k = some v → k ≠ id ∧ ρ k = some v := by
    intro k v hk
    unfold Go.Proofs.Ytpnoklbijfmoaaa.less at hk
    split at hk
    · cases hk
    · rename_i e; exact ⟨e, hk⟩
  refine ⟨h.bel, h.b0, fun k v hk => ?_, fun k k' v v' b h1 h2 h3 h4 => h.dist k k' v v' b (hsub _ _ h1).2 (hsub _ _ h2).2 h3 h4⟩
  obtain ⟨h1, h2⟩ := hsub k v hk
  obtain ⟨ob, h3, h4⟩ := h.obj k v h2
  refine ⟨ob, by rw [lk_dk, if_neg (fun e => h1 e.symm)]; exact h3, h4.mv hK (fun b _ hb => ?_) (fun _ _ => rfl)⟩
  rcases hb with hb | ⟨k', u, h5, h6⟩
  · exact Or.inl hb
  · exact Or.inr ⟨k', u, (hsub _ _ h5).2, h6⟩

/-- The object's block is nobody else's. -/
theorem Core.lone {ρ : Rho} {B0 : BS} {w0 : Wz} {w : World} {hp : List (Nat × AO)} {id b : Nat} {v : Value} (h : Core ρ B0 w0 w hp) (hid : ρ id = some v) (hb : vblk v = some b) : ¬ Bd (Go.Proofs.Ytpnoklbijfmoaaa.less ρ id) B0 b := by
  obtain ⟨ob, _, h2⟩ := h.obj id v hid
  obtain ⟨h3, _⟩ := h2.blk b hb
  rintro (h4 | ⟨k, u, h4, h5⟩)
  · obtain ⟨h6, h7⟩ := h.b0 b h4
    rcases h3 with h3 | h3
    · omega
    · exact h7 h3
  · unfold Go.Proofs.Ytpnoklbijfmoaaa.less at h4
    split at h4
    · cases h4
    · rename_i e; exact e (h.dist k id u v b h4 hid h5 hb)

theorem less_sub {ρ : Rho} {B0 : BS} {id : Nat} (b : Nat) (h : Bd (less ρ id) B0 b) : Bd ρ B0 b := by
  rcases h with h | ⟨k, u, h1, h2⟩
  · exact Or.inl h
  · unfold less at h1
    split at h1
    · cases h1
    · exact Or.inr ⟨k, u, h1, h2⟩

/-- A row of the frame's own is written no more. -/
theorem wkRow {s : AS} (id : Nat) {e : TypeId} {sz n : Nat} {el : Nat → Nat → Lf} (h : lk s.hp id = some (.row e sz n el)) : Wk s ⟨s.n, fzs id (.d (.one (.row sz n el))) (fun _ => .dead) s.sl, dk s.hp id⟩ := by
  rintro B0 w0 a w ⟨ρ, hc, hsz, hdf, hs⟩
  have hK : Keep (Bd ρ B0) w w := ⟨Nat.le_refl _, fun _ _ _ => rfl⟩
  cases hid : ρ id with
  | none =>
    have hl : less ρ id = ρ := by
      funext k; unfold less; split
      · rename_i e; rw [e, hid]
      · rfl
    refine ⟨less ρ id, hc.less, hsz, hdf, fun t av ht => ?_⟩
    obtain ⟨av', h1, rfl⟩ := lk_fzs _ _ _ ht
    obtain ⟨c, h2, h3⟩ := hs t av' h1
    refine ⟨c, h2, ?_⟩
    rw [hl]
    cases av' with
    | own k =>
      have : k ≠ id := fun e => by subst e; rw [h3.1] at hid; cases hid
      have hb : Nat.beq k id = false := by rw [← Bool.not_eq_true]; exact fun h => this (Nat.eq_of_beq_eq_true h)
      simp only [fz, hb, cond_false]; exact h3
    | ptr k off =>
      have : k ≠ id := fun e => by subst e; obtain ⟨g, h4, _⟩ := h3; rw [h4] at hid; cases hid
      have hb : Nat.beq k id = false := by rw [← Bool.not_eq_true]; exact fun h => this (Nat.eq_of_beq_eq_true h)
      simp only [fz, hb, cond_false]; exact h3
    | eptr k sz' i j =>
      have : k ≠ id := fun e => by subst e; obtain ⟨g, _, _, h4, _⟩ := h3; rw [h4] at hid; cases hid
      have hb : Nat.beq k id = false := by rw [← Bool.not_eq_true]; exact fun h => this (Nat.eq_of_beq_eq_true h)
      simp only [fz, hb, cond_false]; exact h3
    | lim k j =>
      have : k ≠ id := fun e => by subst e; obtain ⟨_, _, h4, _⟩ := h3; rw [h4] at hid; cases hid
      have hb : Nat.beq k id = false := by rw [← Bool.not_eq_true]; exact fun h => this (Nat.eq_of_beq_eq_true h)
      simp only [fz, hb, cond_false]; exact h3
    | ptup k j =>
      have : k ≠ id := fun e => by subst e; obtain ⟨_, h4, _⟩ := h3; rw [h4] at hid; cases hid
      have hb : Nat.beq k id = false := by rw [← Bool.not_eq_true]; exact fun h => this (Nat.eq_of_beq_eq_true h)
      simp only [fz, hb, cond_false]; exact h3
    | wit k =>
      have : k ≠ id := fun e => by subst e; obtain ⟨_, h4⟩ := h3; rw [h4] at hid; cases hid
      have hb : Nat.beq k id = false := by rw [← Bool.not_eq_true]; exact fun h => this (Nat.eq_of_beq_eq_true h)
      simp only [fz, hb, cond_false]; exact h3
    | d x => exact h3
    | tup x => exact h3
    | dead => trivial
  | some v =>
    refine ⟨less ρ id, hc.less, hsz, hdf, fun t av ht => ?_⟩
    obtain ⟨av', h1, rfl⟩ := lk_fzs _ _ _ ht
    obtain ⟨c, h2, h3⟩ := hs t av' h1
    refine ⟨c, h2, h3.fz hid (fun _ => ?_) (fun _ _ _ => trivial)⟩
    obtain ⟨ob, o1, o2⟩ := hc.obj id v hid
    rw [h] at o1
    cases o1
    obtain ⟨xs, ⟨⟨hxl, hown⟩, hbk⟩, hel⟩ := o2
    rcases hown with ⟨rfl, h0⟩ | ⟨g, cap, cur, rfl, hge, hblk, hn, hm, hsz', htk⟩
    · subst h0
      exact ⟨none, 0, rfl, Nat.le_refl _, fun _ => rfl, fun i hi => absurd hi (Nat.not_lt_zero _)⟩
    · refine ⟨some ⟨g, 0, none⟩, cap, rfl, hn, fun h => (by cases h), fun i hi => ⟨g, 0, rfl, hc.lone hid rfl, lt_of_block hblk, fun j hj => ?_⟩⟩
      obtain ⟨x, hx1, hx2⟩ := hel i j hi hj
      refine ⟨x, ?_, LfR.mv hK (fun b _ hb => less_sub b hb) _ hx2⟩
      rw [Nat.zero_add, cell_of_row w g _ cur _ (0, 0) hblk, ← Array.getElem?_toList]
      rw [← htk, List.getElem?_take] at hx1
      split at hx1
      · exact hx1
      · cases hx1

/-- A variable of the frame's own is written no more. -/
theorem wkBox {s : AS} (id : Nat) {t : TypeId} {cs : List Lf} (h : lk s.hp id = some (.box t cs)) : Wk s ⟨s.n, fzs id .dead (fun off => .d (.one (.at (cs.length - off) fun q => (cs[off + q]?).getD (.v undef)))) s.sl, dk s.hp id⟩ := by
  rintro B0 w0 a w ⟨ρ, hc, hsz, hdf, hs⟩
  have hK : Keep (Bd ρ B0) w w := ⟨Nat.le_refl _, fun _ _ _ => rfl⟩
  cases hid : ρ id with
  | none =>
    have hl : less ρ id = ρ := by
      funext k; unfold less; split
      · rename_i e; rw [e, hid]
      · rfl
    refine ⟨less ρ id, hc.less, hsz, hdf, fun t av ht => ?_⟩
    obtain ⟨av', h1, rfl⟩ := lk_fzs _ _ _ ht
    obtain ⟨c, h2, h3⟩ := hs t av' h1
    refine ⟨c, h2, ?_⟩
    rw [hl]
    cases av' with
    | own k =>
      have : k ≠ id := fun e => by subst e; rw [h3.1] at hid; cases hid
      have hb : Nat.beq k id = false := by rw [← Bool.not_eq_true]; exact fun h => this (Nat.eq_of_beq_eq_true h)
      simp only [fz, hb, cond_false]; exact h3
    | ptr k off =>
      have : k ≠ id := fun e => by subst e; obtain ⟨g, h4, _⟩ := h3; rw [h4] at hid; cases hid
      have hb : Nat.beq k id = false := by rw [← Bool.not_eq_true]; exact fun h => this (Nat.eq_of_beq_eq_true h)
      simp only [fz, hb, cond_false]; exact h3
    | eptr k sz' i j =>
      have : k ≠ id := fun e => by subst e; obtain ⟨g, _, _, h4, _⟩ := h3; rw [h4] at hid; cases hid
      have hb : Nat.beq k id = false := by rw [← Bool.not_eq_true]; exact fun h => this (Nat.eq_of_beq_eq_true h)
      simp only [fz, hb, cond_false]; exact h3
    | lim k j =>
      have : k ≠ id := fun e => by subst e; obtain ⟨_, _, h4, _⟩ := h3; rw [h4] at hid; cases hid
      have hb : Nat.beq k id = false := by rw [← Bool.not_eq_true]; exact fun h => this (Nat.eq_of_beq_eq_true h)
      simp only [fz, hb, cond_false]; exact h3
    | ptup k j =>
      have : k ≠ id := fun e => by subst e; obtain ⟨_, h4, _⟩ := h3; rw [h4] at hid; cases hid
      have hb : Nat.beq k id = false := by rw [← Bool.not_eq_true]; exact fun h => this (Nat.eq_of_beq_eq_true h)
      simp only [fz, hb, cond_false]; exact h3
    | wit k =>
      have : k ≠ id := fun e => by subst e; obtain ⟨_, h4⟩ := h3; rw [h4] at hid; cases hid
      have hb : Nat.beq k id = false := by rw [← Bool.not_eq_true]; exact fun h => this (Nat.eq_of_beq_eq_true h)
      simp only [fz, hb, cond_false]; exact h3
    | d x => exact h3
    | tup x => exact h3
    | dead => trivial
  | some v =>
    refine ⟨less ρ id, hc.less, hsz, hdf, fun t' av ht => ?_⟩
    obtain ⟨av', h1, rfl⟩ := lk_fzs _ _ _ ht
    obtain ⟨c, h2, h3⟩ := hs t' av' h1
    refine ⟨c, h2, h3.fz hid (fun _ => trivial) (fun g off hv => ?_)⟩
    obtain ⟨ob, o1, g', us, he, hge, hb, hul⟩ : ∃ ob, lk s.hp id = some ob ∧ ∃ g us, v = .pointer (some ⟨g, 0, none⟩) ∧ w0.own g ∧ Blk w g t us ∧ LsR (Bd ρ B0) w cs us := by
      obtain ⟨ob, o1, o2⟩ := hc.obj id v hid
      rw [h] at o1
      cases o1
      exact ⟨_, h, o2⟩
    rw [hv] at he
    cases he
    refine ⟨g, off, rfl, hc.lone hid (by rw [hv]; rfl), hb.lt, fun j hj => ?_⟩
    obtain ⟨l, hl⟩ : ∃ l, cs[off + j]? = some l := ⟨cs[off + j]'(by omega), by simp⟩
    obtain ⟨x, hx, hr⟩ := hul.get hl
    obtain ⟨q1, q2⟩ := List.getElem?_eq_some_iff.1 hx
    refine ⟨x, by rw [← q2]; exact hb.cell _ q1, ?_⟩
    show LfR _ _ ((cs[off + j]?).getD _) x
    rw [hl]
    exact LfR.mv hK (fun b _ hb => less_sub b hb) _ hr

/-- An empty row (nil) is taken for the frame's own. -/
theorem wkNil {s : AS} (t id : Nat) (e : TypeId) (sz : Nat) (el : Nat → Nat → Lf) (h : lk s.sl t = some (.d (.one (.v (.slice none 0 0))))) (hfr : lk s.hp id = none) : Wk s ⟨s.n, (t, .own id) :: s.sl, (id, .row e sz 0 el) :: s.hp⟩ := by
  rintro B0 w0 a w ⟨ρ, hc, hsz, hdf, hs⟩
  have hρ : ρ id = none := by
    cases hρ : ρ id with
    | none => rfl
    | some u => obtain ⟨ob', h1, _⟩ := hc.obj id u hρ; rw [hfr] at h1; cases h1
  have hv : ∀ b, vblk (.slice none 0 0) = some b → w.heap.size ≤ b := fun b hb => by cases hb
  have hc' : Core (up ρ id (.slice none 0 0)) B0 w0 w ((id, .row e sz 0 el) :: s.hp) := hc.new (ob := .row e sz 0 el) hρ (Below.refl _ _) hv (fun k ob hk hne => by rw [lk_cons, if_neg (fun e => hne e.symm)]; exact hk) (by rw [lk_cons, if_pos rfl])
    ⟨[], ⟨World.ownsRow_nil w _ e sz, fun b hb => by cases hb⟩, fun i j hi => absurd hi (Nat.not_lt_zero _)⟩
  refine ⟨_, hc', hsz, hdf, fun u av hu => ?_⟩
  rw [lk_cons] at hu
  split at hu
  · rename_i e'
    cases hu
    subst e'
    obtain ⟨v, h1, h2, _⟩ := hs t _ h
    exact ⟨v, h1, by rw [h2]; simp [up], none, 0, 0, h2⟩
  · obtain ⟨v, h1, h2⟩ := hs u av hu
    exact ⟨v, h1, h2.new hρ (Below.refl _ _) hv⟩

/-- What is appended. -/
def srcOf (s : AS) (y : Operand) (sz : Nat) : Option (Nat × (Nat → Nat → Lf)) := match geto s y with
  | some (.d (.one (.row sz' m el))) => bif Nat.beq sz sz' then some (m, el) else none
  | some (.d (.one (.v (.slice none 0 0)))) => some (0, fun _ _ => .v undef)
  | _ => none

theorem srcOf_ok {s : AS} {ρ : Rho} {B : BS} {w : World} {a : Act} {y : Operand} {sz m : Nat} {el : Nat → Nat → Lf} (hs : Slots ρ B w s.sl a) (h : srcOf s y sz = some (m, el)) :
    ∃ ao c, ∃ news : List Value, a.eval y = .slice ao m c ∧ news.length = m * sz ∧ (ao = none → c = 0) ∧ m ≤ c ∧ CellsAt w ao news ∧ ∀ i j, i < m → j < sz → ∃ x, news[i * sz + j]? = some x ∧ LfR B w (el i j) x := by
  unfold srcOf at h
  split at h
  · rename_i sz' m' el' hy
    cases hb : Nat.beq sz sz' with
    | false => rw [hb] at h; cases h
    | true =>
      rw [hb] at h
      cases h
      obtain rfl := Nat.eq_of_beq_eq_true hb
      obtain ⟨ao, cap, he, hle, hnil, hel⟩ := (geto_ok hs hy : LfR _ _ _ _)
      rcases Nat.eq_zero_or_pos m with hm | hm
      · subst hm
        exact ⟨ao, cap, [], he, by simp, hnil, Nat.zero_le _, Or.inl rfl, fun i j hi => absurd hi (Nat.not_lt_zero _)⟩
      · obtain ⟨b, off, rfl, hb, hlt, _⟩ := hel 0 hm
        have hcell : ∀ i j, i < m → j < sz → ∃ x, w.cell? ⟨b, off + (i * sz + j), none⟩ = some x ∧ LfR B w (el i j) x := by
          intro i j hi hj
          obtain ⟨b', off', he', _, _, h2⟩ := hel i hi
          cases he'
          obtain ⟨x, hx, hl⟩ := h2 j hj
          exact ⟨x, by rw [← Nat.add_assoc]; exact hx, hl⟩
        have hget : ∀ q, q < m * sz → ((List.range (m * sz)).map fun q => (w.cell? ⟨b, off + q, none⟩).getD undef)[q]? = some ((w.cell? ⟨b, off + q, none⟩).getD undef) := by
          intro q hq
          rw [List.getElem?_map, List.getElem?_range hq]; rfl
        have hdec : ∀ q, q < m * sz → ∃ x, w.cell? ⟨b, off + q, none⟩ = some x := by
          intro q hq
          have hsz : 0 < sz := Nat.pos_of_ne_zero (fun e => by subst e; omega)
          have h1 : q / sz < m := Nat.div_lt_of_lt_mul (by rw [Nat.mul_comm]; exact hq)
          obtain ⟨x, hx, _⟩ := hcell (q / sz) (q % sz) h1 (Nat.mod_lt _ hsz)
          rw [Nat.mul_comm, Nat.div_add_mod] at hx
          exact ⟨x, hx⟩
        refine ⟨some ⟨b, off, none⟩, cap, (List.range (m * sz)).map (fun q => (w.cell? ⟨b, off + q, none⟩).getD undef), he, by simp, hnil, hle, Or.inr ⟨b, off, rfl, fun q hq => ?_⟩, fun i j hi hj => ?_⟩
        · have hq' : q < m * sz := by simpa using hq
          obtain ⟨x, hx⟩ := hdec q hq'
          simp [hx]
        · obtain ⟨x, hx, hl⟩ := hcell i j hi hj
          have hidx : i * sz + j < m * sz := by
            have : (i + 1) * sz ≤ m * sz := Nat.mul_le_mul_right _ (by omega)
            rw [Nat.add_mul, Nat.one_mul] at this
            omega
          refine ⟨x, ?_, hl⟩
          rw [hget _ hidx, hx]; rfl
  · rename_i hy
    cases h
    have he := (geto_ok hs hy : LfR _ _ _ _).1
    exact ⟨none, 0, [], he, by simp, fun _ => rfl, Nat.le_refl _, Or.inl rfl, fun i j hi => absurd hi (Nat.not_lt_zero _)⟩
  · cases h

def appEl (n : Nat) (el el2 : Nat → Nat → Lf) : Nat → Nat → Lf := fun i j => bif Nat.ble (i + 1) n then el i j else el2 (i - n) j

set_option maxHeartbeats 1000000 in
/-- APPEND to a row of the frame's own, whatever the source. -/
theorem mAS {P : Program} {T : TypeId → Option TI} (hT : TOk P T) {ops : Array Oper} {Q : Qs} {o : Oper} {l : List Oper} {s : AS} {c : Call} {x y : Operand} {t e : TypeId} {ti te : TI} {id n m d : Nat} {el el2 : Nat → Nat → Lf}
    (hx : geto s x = some (.own id)) (hob : lk s.hp id = some (.row e te.n n el)) (hy : ∀ (ρ : Rho) (B0 : BS) (w0 : Wz) (w : World) (a : Act), Core ρ B0 w0 w s.hp → Slots ρ (Bd ρ B0) w s.sl a → ∃ ao c, ∃ news : List Value, a.eval y = .slice ao m c ∧ news.length = m * te.n ∧ (ao = none → c = 0) ∧ m ≤ c ∧ CellsAt w ao news ∧ ∀ i j, i < m → j < te.n → ∃ x, news[i * te.n + j]? = some x ∧ LfR (Bd ρ B0) w (el2 i j) x) (hbd : (n + m) * te.bytes ≤ 140737488355328) (hmx : n + m ≤ 9223372036854775807) (hc : callOf o.op = some c) (hcal : c.callee = .builtin .append) (hargs : c.args.toList = [x, y]) (hty : c.argTypes.toList = [t, t]) (hti : T t = some ti) (he : ti.elem = some e) (hte : T e = some te) (hz : Nat.beq te.zero.length te.n = true) (h0 : Nat.ble 1 te.n = true)
    (hdst : o.dst = some d) (k : AL P ops Q l ⟨s.n, (d, .own id) :: fzs id .dead (fun _ => .dead) s.sl, (id, .row e te.n (n + m) (appEl n el el2)) :: s.hp⟩) (hg : gst ops s o = some true := by rfl) (hd : dok (some d) s.n = true := by rfl) : AL P ops Q (o :: l) s := by
  rintro B0 w0 a w ⟨ρ, hcr, hn, hdf, hs⟩
  have hop : o.op = .call c := by
    unfold callOf at hc
    split at hc
    · rename_i h; cases hc; exact h
    · cases hc
  obtain ⟨hid, ad, n', cap, hxe⟩ := geto_ok hs hx
  obtain ⟨ob, o1, o2⟩ := hcr.obj id _ hid
  rw [hob] at o1
  cases o1
  obtain ⟨xs, hown, hel⟩ := o2
  obtain ⟨ao, cc, news, hye, hnl, hnil, hmc, hsrc, hel2⟩ := hy ρ B0 w0 w a hcr hs
  obtain ⟨i, z, dd, h1, h2, h3, h4, h5, h6, h7, h8, h9, _⟩ := ti_parts (hT _ _ hti)
  have := h9 e he
  subst this
  obtain ⟨i', z', dd', k1, k2, k3, k4, k5, k6, k7, _⟩ := ti_parts (hT _ _ hte)
  have hzl : te.zero.length = te.n := Nat.eq_of_beq_eq_true hz
  have hsz : 0 < te.n := Nat.le_of_ble_eq_true h0
  have hzs : z'.cells.size = te.n := by rw [← hzl, ← k5]; simp
  have hone : ∀ u ∈ news, u.oneCell' = true := by
    intro u hu
    obtain ⟨q, hq, rfl⟩ := List.mem_iff_getElem.1 hu
    rw [hnl] at hq
    have hdiv : q / te.n < m := Nat.div_lt_of_lt_mul (by rw [Nat.mul_comm]; exact hq)
    obtain ⟨u, hu1, hu2⟩ := hel2 (q / te.n) (q % te.n) hdiv (Nat.mod_lt _ hsz)
    rw [Nat.mul_comm, Nat.div_add_mod] at hu1
    obtain ⟨_, hu3⟩ := List.getElem?_eq_some_iff.1 hu1
    rw [hu3]; exact hu2.one
  obtain ⟨v', w', hr, hown', hgrow, hblk⟩ := run_append_am (P := P) (w := w) 0 t o.type e i' z' te.n te.bytes h3 k1 k2 k4 k7 hzs hsz (a.eval x) n xs hown.1 ao m cc news hnl hnil hmc hsrc hone (by simp [maxLen]; omega) hbd (Nat.zero_le _)
  have hrun : (execOp a.eval o).run P w = .ok (.value v') w' := by
    have ha : c.args = #[x, y] := by rw [← Array.toList_inj]; exact hargs
    have ht : c.argTypes = #[t, t] := by rw [← Array.toList_inj]; exact hty
    unfold execOp
    rw [hop]
    simp [resolve, hcal, invoke, builtin, ha, ht, hye, hr]
  have hvb : ∀ b, (a.eval x).ownBlock = some b → vblk (a.eval x) = some b := by
    intro b hb
    rw [hxe] at hb ⊢
    cases ad with
    | none => cases hb
    | some q => exact hb
  have hb0 : Below 0 w w' := (Below.refl _ _).grown hgrow (Nat.zero_le _) (fun k hk => Nat.zero_le _)
  have hbel : Bel w0 w' := hcr.bel.put hb0.os hb0.tape hb0.output hgrow.size (g := fun b => vblk (a.eval x) = some b) (fun b e => hown.2 b e) (fun b hb hne => hgrow.block b hb (fun e => hne (hvb b e.symm)))
  have hkeepb : ∀ b, b < w.heap.size → vblk (a.eval x) ≠ some b → w'.heap[b]? = w.heap[b]? := fun b hb hne => hgrow.block b hb (fun e => hne (hvb b e.symm))
  have hK : Keep (Bd ρ B0) w w' := ⟨hgrow.size, fun b hb hB => hkeepb b hb (fun e => hB (Or.inr ⟨id, _, hid, e⟩))⟩
  have hB' : ∀ b, b < w.heap.size → Bd (up ρ id v') B0 b → Bd ρ B0 b := by
    rintro b hb (h | ⟨k, u, q1, q2⟩)
    · exact Or.inl h
    · unfold up at q1
      split at q1
      · cases q1
        rcases hblk b q2 with q3 | q3
        · exact Or.inr ⟨id, _, hid, q3⟩
        · omega
      · exact Or.inr ⟨k, u, q1, q2⟩
  have hW := Core.write (v' := v') (ob' := .row e te.n (n + m) (appEl n el el2)) (hp' := (id, .row e te.n (n + m) (appEl n el el2)) :: s.hp) hcr hid (w' := w') hkeepb hgrow.size hbel hblk
    (fun k ob hk hne => by rw [lk_cons, if_neg (fun e => hne e.symm)]; exact hk) (by rw [lk_cons, if_pos rfl])
    ⟨xs ++ news, ⟨hown', fun b hb => (hblk b hb).elim (hown.2 b) (fun h => Or.inl (Nat.le_trans hcr.bel.size h))⟩, fun p q hp hq => by
      have hxl := hown.1.1
      by_cases hpn : p < n
      · obtain ⟨u, hu1, hu2⟩ := hel p q hpn hq
        have hidx := (List.getElem?_eq_some_iff.1 hu1).1
        refine ⟨u, by rw [List.getElem?_append_left hidx]; exact hu1, ?_⟩
        have : appEl n el el2 p q = el p q := by
          unfold appEl; rw [show Nat.ble (p + 1) n = true from Nat.ble_eq_true_of_le hpn]; rfl
        rw [this]
        exact LfR.mv hK hB' _ hu2
      · obtain ⟨u, hu1, hu2⟩ := hel2 (p - n) q (by omega) hq
        have hpm : p * te.n + q = n * te.n + ((p - n) * te.n + q) := by
          rw [← Nat.add_assoc, ← Nat.add_mul]
          congr 2
          omega
        refine ⟨u, by rw [hpm, List.getElem?_append_right (by omega), hxl, Nat.add_sub_cancel_left]; exact hu1, ?_⟩
        have : appEl n el el2 p q = el2 (p - n) q := by
          unfold appEl; rw [show Nat.ble (p + 1) n = false from by rw [← Bool.not_eq_true]; exact fun h => hpn (Nat.le_of_ble_eq_true h)]; rfl
        rw [this]
        exact LfR.mv hK hB' _ hu2⟩
  refine wpl_value (gst_ok hg hs) hrun (k B0 w0 _ w' ⟨up ρ id v', hW.1, by rw [hdst]; show (a.tmps.setIfInBounds d v').size = s.n; simpa using hn, by rw [hdst]; exact hdf, ?_⟩)
  rw [hdst]
  have hsl2 : Slots (up ρ id v') (Bd (up ρ id v') B0) w' (fzs id .dead (fun _ => .dead) s.sl) a := by
    intro u av hu
    obtain ⟨av', q1, rfl⟩ := lk_fzs _ _ _ hu
    obtain ⟨v, q2, q3⟩ := hs u av' q1
    refine ⟨v, q2, ?_⟩
    have keep : (∀ k, av'.on k = true → k ≠ id) → AR (up ρ id v') (Bd (up ρ id v') B0) w' av' v := fun hne => AR.mv hK hB' (fun k hk => by unfold up; rw [if_neg (hne k hk)]) q3
    cases av' with
    | own k =>
      show AR _ _ _ (bif Nat.beq k id then .dead else .own k) v
      cases e : Nat.beq k id with
      | true => trivial
      | false => exact keep (fun k' hk' => by have : k = k' := Nat.eq_of_beq_eq_true hk'; rintro rfl; rw [this, Nat.beq_refl] at e; cases e)
    | ptr k off =>
      show AR _ _ _ (bif Nat.beq k id then .dead else .ptr k off) v
      cases e : Nat.beq k id with
      | true => trivial
      | false => exact keep (fun k' hk' => by have : k = k' := Nat.eq_of_beq_eq_true hk'; rintro rfl; rw [this, Nat.beq_refl] at e; cases e)
    | eptr k sz i j =>
      show AR _ _ _ (bif Nat.beq k id then .dead else .eptr k sz i j) v
      cases e : Nat.beq k id with
      | true => trivial
      | false => exact keep (fun k' hk' => by have : k = k' := Nat.eq_of_beq_eq_true hk'; rintro rfl; rw [this, Nat.beq_refl] at e; cases e)
    | lim k j =>
      show AR _ _ _ (bif Nat.beq k id then .dead else .lim k j) v
      cases e : Nat.beq k id with
      | true => trivial
      | false => exact keep (fun k' hk' => by have : k = k' := Nat.eq_of_beq_eq_true hk'; rintro rfl; rw [this, Nat.beq_refl] at e; cases e)
    | ptup k j =>
      show AR _ _ _ (bif Nat.beq k id then .dead else .ptup k j) v
      cases e : Nat.beq k id with
      | true => trivial
      | false => exact keep (fun k' hk' => by have : k = k' := Nat.eq_of_beq_eq_true hk'; rintro rfl; rw [this, Nat.beq_refl] at e; cases e)
    | wit k =>
      show AR _ _ _ (bif Nat.beq k id then .dead else .wit k) v
      cases e : Nat.beq k id with
      | true => trivial
      | false => exact keep (fun k' hk' => by have : k = k' := Nat.eq_of_beq_eq_true hk'; rintro rfl; rw [this, Nat.beq_refl] at e; cases e)
    | d x => exact keep (fun k hk => by cases hk)
    | tup x => exact keep (fun k hk => by cases hk)
    | dead => trivial
  refine slots_put hsl2 hn (Nat.le_of_ble_eq_true hd) ⟨by simp [up], ?_⟩
  obtain ⟨_, ⟨rfl, _⟩ | ⟨g, cap', cur, rfl, _⟩⟩ := hown'
  · exact ⟨none, 0, 0, rfl⟩
  · exact ⟨_, _, _, rfl⟩

/-- APPEND to a row of the frame's own. -/
theorem mA {P : Program} {T : TypeId → Option TI} (hT : TOk P T) {ops : Array Oper} {Q : Qs} {o : Oper} {l : List Oper} {s : AS} {c : Call} {x y : Operand} {t e : TypeId} {ti te : TI} {id n m d : Nat} {el el2 : Nat → Nat → Lf}
    (hx : geto s x = some (.own id)) (hob : lk s.hp id = some (.row e te.n n el)) (hy : srcOf s y te.n = some (m, el2)) (hbd : (n + m) * te.bytes ≤ 140737488355328) (hmx : n + m ≤ 9223372036854775807) (hc : callOf o.op = some c) (hcal : c.callee = .builtin .append) (hargs : c.args.toList = [x, y]) (hty : c.argTypes.toList = [t, t]) (hti : T t = some ti) (he : ti.elem = some e) (hte : T e = some te) (hz : Nat.beq te.zero.length te.n = true) (h0 : Nat.ble 1 te.n = true)
    (hdst : o.dst = some d) (k : AL P ops Q l ⟨s.n, (d, .own id) :: fzs id .dead (fun _ => .dead) s.sl, (id, .row e te.n (n + m) (appEl n el el2)) :: s.hp⟩) (hg : gst ops s o = some true := by rfl) (hd : dok (some d) s.n = true := by rfl) : AL P ops Q (o :: l) s :=
  mAS hT hx hob (fun ρ B0 w0 w a _ hs => srcOf_ok hs hy) hbd hmx hc hcal hargs hty hti he hte hz h0 hdst k hg hd

end Go.Proofs.Ytpnoklbijfmoaaa

/-
  THE ABSTRACT MACHINE, 13: NUMBERS: rows of limbs and of digits, leaves; whole numbers of the program and of the plain reckoning. No condition; nothing of the program.
-/
set_option linter.unusedVariables false
set_option linter.unusedSimpArgs false
namespace Go.Proofs.Ytpnoklbijfmoaaa
open Go.RowKit

/-- A whole number by its sign and size. -/
def zv (neg : Bool) (m : Nat) : Int := if neg then -(m : Int) else m
theorem zv_neg (neg : Bool) (m : Nat) : decide (zv neg m < 0) = (neg && decide (0 < m)) := by
  cases neg <;> simp [zv] <;> omega
theorem zv_abs (neg : Bool) (m : Nat) : (zv neg m).natAbs = m := by cases neg <;> simp [zv]
theorem zv_natAbs (z : Int) : zv (decide (z < 0)) z.natAbs = z := by
  unfold zv
  by_cases h : z < 0
  · rw [decide_eq_true h, if_pos rfl]; omega
  · rw [decide_eq_false h, if_neg (by simp)]; omega

/-- A row of integers, of at most K. -/
def rowSm (k : IntKind) (D K : Nat) (xs : List Nat) : Sm where
  p := fun B w v => ∃ a n c, v = .slice a n c ∧ Rw k D w a n c xs ∧ n ≤ K ∧ ∀ x, a = some x → xs ≠ [] → ¬ B x.block
  one := by rintro B w v ⟨a, n, c, rfl, _⟩; rfl
  mv := by
    rintro B B' w w' v ⟨a, n, c, rfl, ⟨h1, h2, h3, h4, h5⟩, h6, h7⟩ hk hB
    refine ⟨a, n, c, rfl, ⟨h1, h2, h3, h4, ?_⟩, h6, fun x hx hne hb => ?_⟩
    · rcases h5 with h5 | ⟨b, off, rfl, h5⟩
      · exact Or.inl h5
      · by_cases hne : xs = []
        · subst hne; exact Or.inl rfl
        · exact Or.inr ⟨b, off, rfl, fun j hj => hk.cell (h5 j hj) (show ¬ B b from h7 ⟨b, off, none⟩ rfl hne)⟩
    · subst hx
      have hlt : x.block < w.heap.size := by
        rcases h5 with h5 | ⟨b, off, he, h5⟩
        · exact absurd (List.map_eq_nil_iff.1 h5) hne
        · cases he
          have hl : 0 < (ints k xs).length := by rw [ints_length]; exact List.length_pos_iff.2 hne
          exact World.block_lt_of_cell? w _ (h5 0 hl)
      exact h7 x rfl hne (hB _ hlt hb)

/-- Limbs, of at most K; digits of four decimals. -/
def lr (K : Nat) (xs : List Nat) : Lf := .ln xs.length (rowSm .u32 B32 K xs)
def dr (K : Nat) (xs : List Nat) : Lf := .ln xs.length (rowSm .i64 B4 K xs)
/-- .. normal. -/
def ln (K m : Nat) : Lf := lr K (limbs m)
def dn (K m : Nat) : Lf := dr K (digs4 m)
/-- A whole number, normal; us the plain reckoning has it. -/
def zn (K : Nat) (z : Int) : List Lf := [.v (.bool (decide (z < 0))), ln K z.natAbs]
def rn (K : Nat) (z : Int) : List Lf := [dn K z.natAbs, .v (.bool (decide (z < 0)))]

/-- What stands there is this number (whatever its form; with noughts on top, perhaps). -/
def IsL (l : Lf) (K m : Nat) : Prop := ∃ xs, (∀ B w c, LfR B w l c → LfR B w (lr K xs) c) ∧ val xs = m
def IsZ (ls : List Lf) (K : Nat) (z : Int) : Prop := ∃ s xs, (∀ B w cs, LsR B w ls cs → LsR B w [.v (.bool s), lr K xs] cs) ∧ zv s (val xs) = z
def IsD (l : Lf) (K m : Nat) : Prop := ∀ B w c, LfR B w l c → LfR B w (dn K m) c
def IsR (ls : List Lf) (K : Nat) (z : Int) : Prop := ∀ B w cs, LsR B w ls cs → LsR B w (rn K z) cs

theorem isl (K m : Nat) : IsL (ln K m) K m := ⟨_, fun _ _ _ h => h, val_limbs m⟩
theorem isz (K : Nat) (z : Int) : IsZ (zn K z) K z := ⟨_, _, fun _ _ _ h => h, by rw [val_limbs]; exact zv_natAbs z⟩
theorem isd (K m : Nat) : IsD (dn K m) K m := fun _ _ _ h => h
theorem isr (K : Nat) (z : Int) : IsR (rn K z) K z := fun _ _ _ h => h
theorem iszr (K : Nat) (s : Bool) (xs : List Nat) : IsZ [.v (.bool s), lr K xs] K (zv s (val xs)) := ⟨_, _, fun _ _ _ h => h, rfl⟩
theorem iszl (K : Nat) (s : Bool) (m : Nat) : IsZ [.v (.bool s), ln K m] K (zv s m) := ⟨_, _, fun _ _ _ h => h, by rw [val_limbs]⟩
theorem islr (K : Nat) (s : Bool) (xs : List Nat) : IsL (lr K xs) K (zv s (val xs)).natAbs := ⟨_, fun _ _ _ h => h, (zv_abs _ _).symm⟩
theorem islv (K : Nat) (xs : List Nat) : IsL (lr K xs) K (val xs) := ⟨_, fun _ _ _ h => h, rfl⟩

theorem lr_R {B : BS} {w : World} {K : Nat} {xs : List Nat} {a : Option Addr} {n c : Nat} (h : Rw .u32 B32 w a n c xs) (hK : n ≤ K) (hB : ∀ x, a = some x → xs ≠ [] → ¬ B x.block) : LfR B w (lr K xs) (.slice a n c) :=
  ⟨⟨a, n, c, rfl, h, hK, hB⟩, a, c, by rw [h.len]⟩
theorem dr_R {B : BS} {w : World} {K : Nat} {xs : List Nat} {a : Option Addr} {n c : Nat} (h : Rw .i64 B4 w a n c xs) (hK : n ≤ K) (hB : ∀ x, a = some x → xs ≠ [] → ¬ B x.block) : LfR B w (dr K xs) (.slice a n c) :=
  ⟨⟨a, n, c, rfl, h, hK, hB⟩, a, c, by rw [h.len]⟩
theorem lr_of {B : BS} {w : World} {K : Nat} {xs : List Nat} {v : Value} (h : LfR B w (lr K xs) v) : ∃ a n c, v = .slice a n c ∧ Rw .u32 B32 w a n c xs ∧ n ≤ K ∧ ∀ x, a = some x → xs ≠ [] → ¬ B x.block := h.1
theorem dr_of {B : BS} {w : World} {K : Nat} {xs : List Nat} {v : Value} (h : LfR B w (dr K xs) v) : ∃ a n c, v = .slice a n c ∧ Rw .i64 B4 w a n c xs ∧ n ≤ K ∧ ∀ x, a = some x → xs ≠ [] → ¬ B x.block := h.1

/-- A row of the call's own keeps out of elder blocks. -/
theorem own_out {B : BS} {w w' : World} {k : IntKind} {D n c : Nat} {a : Option Addr} {xs : List Nat} (hB : ∀ b, B b → b < w.heap.size) (ho : Own w.heap.size w' a c) (hr : Rw k D w' a n c xs) : ∀ x, a = some x → xs ≠ [] → ¬ B x.block := by
  rintro x rfl hne hb
  have h1 := hB _ hb
  rcases ho with h0 | ⟨b, off, cs, e, he, hge, _⟩
  · have h2 := hr.le
    have h3 := hr.len
    have : xs = [] := List.eq_nil_of_length_eq_zero (by omega)
    exact hne this
  · cases he
    simp at h1
    omega

theorem lr_mono {K L : Nat} {xs : List Nat} (h : K ≤ L) : ∀ B w v, LfR B w (lr K xs) v → LfR B w (lr L xs) v := by
  rintro B w v ⟨⟨a, n, c, h1, h2, h3, h4⟩, h5⟩
  exact ⟨⟨a, n, c, h1, h2, Nat.le_trans h3 h, h4⟩, h5⟩
theorem dr_mono {K L : Nat} {xs : List Nat} (h : K ≤ L) : ∀ B w v, LfR B w (dr K xs) v → LfR B w (dr L xs) v := by
  rintro B w v ⟨⟨a, n, c, h1, h2, h3, h4⟩, h5⟩
  exact ⟨⟨a, n, c, h1, h2, Nat.le_trans h3 h, h4⟩, h5⟩
theorem zn_mono {K L : Nat} {z : Int} (h : K ≤ L) : ∀ B w cs, LsR B w (zn K z) cs → LsR B w (zn L z) cs
  | B, w, [a, b], ⟨h1, h2, h3⟩ => ⟨h1, lr_mono h _ _ _ h2, h3⟩
theorem rn_mono {K L : Nat} {z : Int} (h : K ≤ L) : ∀ B w cs, LsR B w (rn K z) cs → LsR B w (rn L z) cs
  | B, w, [a, b], ⟨h1, h2, h3⟩ => ⟨dr_mono h _ _ _ h1, h2, h3⟩
theorem le_agg {ls ms : List Lf} (h : ∀ B w cs, LsR B w ls cs → LsR B w ms cs) : AV.le (.d (.agg ls)) (.d (.agg ms)) := fun ρ B w v ⟨cs, e, hl⟩ => ⟨cs, e, h _ _ _ hl⟩
theorem le_one {l m : Lf} (h : ∀ B w c, LfR B w l c → LfR B w m c) : AV.le (.d (.one l)) (.d (.one m)) := fun ρ B w v hl => h _ _ _ hl
theorem le_zn {K L : Nat} {z y : Int} (h : K ≤ L) (e : z = y) : AV.le (.d (.agg (zn K z))) (.d (.agg (zn L y))) := by subst e; exact le_agg (zn_mono h)
theorem le_rn {K L : Nat} {z y : Int} (h : K ≤ L) (e : z = y) : AV.le (.d (.agg (rn K z))) (.d (.agg (rn L y))) := by subst e; exact le_agg (rn_mono h)
theorem le_int {k : IntKind} {z y : Int} (e : z = y) : AV.le (.d (.one (.v (.int k z)))) (.d (.one (.v (.int k y)))) := by subst e; exact AV.le.rfl
theorem le_bool {b c : Bool} (e : b = c) : AV.le (.d (.one (.v (.bool b)))) (.d (.one (.v (.bool c)))) := by subst e; exact AV.le.rfl
theorem leo_box {t : TypeId} {ls ms : List Lf} (h : ∀ B w cs, LsR B w ls cs → LsR B w ms cs) : AO.le (.box t ls) (.box t ms) := fun B w0 w v ⟨g, vs, h1, h2, h3, h4⟩ => ⟨g, vs, h1, h2, h3, h _ _ _ h4⟩
theorem leo_zn {t : TypeId} {K L : Nat} {z y : Int} (h : K ≤ L) (e : z = y) : AO.le (.box t (zn K z)) (.box t (zn L y)) := by subst e; exact leo_box (zn_mono h)
theorem leo_rn {t : TypeId} {K L : Nat} {z y : Int} (h : K ≤ L) (e : z = y) : AO.le (.box t (rn K z)) (.box t (rn L y)) := by subst e; exact leo_box (rn_mono h)
theorem hs' {sl : List (Nat × AV)} {t : Nat} {a b : AV} (h : lk sl t = some a) (k : AV.le a b) : Has sl (t, b) := ⟨a, h, k⟩
theorem ho' {hp : List (Nat × AO)} {t : Nat} {a b : AO} (h : lk hp t = some a) (k : AO.le a b) : HasO hp (t, b) := ⟨a, h, k⟩

/-- A limb row's cells one by one. -/
theorem le_lrow (K : Nat) (xs : List Nat) : AV.le (.d (.one (lr K xs))) (.d (.one (.row 1 xs.length fun i _ => .v (.int .u32 ((xs.getD i 0 : Nat) : Int))))) := by
  refine le_one fun B w v h => ?_
  obtain ⟨a, n, c, rfl, hr, hn, hb⟩ := lr_of h
  obtain rfl := hr.len
  refine ⟨a, c, rfl, hr.le, hr.2.2.1, fun i hi => ?_⟩
  obtain ⟨b, off, x, rfl, hx, hxB, hc⟩ := hr.at hi
  have hne : xs ≠ [] := fun e => by subst e; simp at hi
  refine ⟨b, off, rfl, hb _ rfl hne, World.block_lt_of_cell? w _ hc, fun j hj => ?_⟩
  have : j = 0 := by omega
  subst this
  refine ⟨_, by rw [Nat.mul_one, Nat.add_zero]; exact hc, ?_, rfl⟩
  obtain ⟨hl, rfl⟩ := List.getElem?_eq_some_iff.1 hx
  simp [hl]
theorem le_drow (K : Nat) (xs : List Nat) : AV.le (.d (.one (dr K xs))) (.d (.one (.row 1 xs.length fun i _ => .v (.int .i64 ((xs.getD i 0 : Nat) : Int))))) := by
  refine le_one fun B w v h => ?_
  obtain ⟨a, n, c, rfl, hr, hn, hb⟩ := dr_of h
  obtain rfl := hr.len
  refine ⟨a, c, rfl, hr.le, hr.2.2.1, fun i hi => ?_⟩
  obtain ⟨b, off, x, rfl, hx, hxB, hc⟩ := hr.at hi
  have hne : xs ≠ [] := fun e => by subst e; simp at hi
  refine ⟨b, off, rfl, hb _ rfl hne, World.block_lt_of_cell? w _ hc, fun j hj => ?_⟩
  have : j = 0 := by omega
  subst this
  refine ⟨_, by rw [Nat.mul_one, Nat.add_zero]; exact hc, ?_, rfl⟩
  obtain ⟨hl, rfl⟩ := List.getElem?_eq_some_iff.1 hx
  simp [hl]

/-- No row at all is a row. -/
theorem nil_lr (K : Nat) : AV.le (.d (.one (.v (.slice none 0 0)))) (.d (.one (ln K 0))) := by
  refine le_one ?_
  rintro B w v ⟨rfl, _⟩
  exact lr_R (Rw.nil _ _ _) (Nat.zero_le _) (fun x h => by cases h)
theorem nil_dr (K : Nat) : AV.le (.d (.one (.v (.slice none 0 0)))) (.d (.one (dn K 0))) := by
  refine le_one ?_
  rintro B w v ⟨rfl, _⟩
  exact dr_R (Rw.nil _ _ _) (Nat.zero_le _) (fun x h => by cases h)
theorem nil_ls {B : BS} {w : World} : ∀ {cs : List Value}, LsR B w [.v (.bool false), .v (.slice none 0 0)] cs → LsR B w (zn 0 0) cs
  | [a, b], h => by
    obtain ⟨h1, ⟨h2, _⟩, h3⟩ := h
    subst h2
    exact ⟨h1, lr_R (Rw.nil _ _ _) (Nat.zero_le _) (fun x h => by cases h), h3⟩
theorem nil_rs {B : BS} {w : World} : ∀ {cs : List Value}, LsR B w [.v (.slice none 0 0), .v (.bool false)] cs → LsR B w (rn 0 0) cs
  | [a, b], h => by
    obtain ⟨⟨h1, _⟩, h2, h3⟩ := h
    subst h1
    exact ⟨dr_R (Rw.nil _ _ _) (Nat.zero_le _) (fun x h => by cases h), h2, h3⟩

theorem IsL.eq {l : Lf} {K m n : Nat} (h : IsL l K m) (e : m = n) : IsL l K n := e ▸ h
theorem IsZ.eq {l : List Lf} {K : Nat} {m n : Int} (h : IsZ l K m) (e : m = n) : IsZ l K n := e ▸ h
theorem IsR.eq {l : List Lf} {K : Nat} {m n : Int} (h : IsR l K m) (e : m = n) : IsR l K n := e ▸ h
theorem IsD.eq {l : Lf} {K m n : Nat} (h : IsD l K m) (e : m = n) : IsD l K n := e ▸ h
theorem IsL.mono {l : Lf} {K L m : Nat} (h : IsL l K m) (hk : K ≤ L) : IsL l L m := let ⟨xs, h1, h2⟩ := h; ⟨xs, fun B w c hc => lr_mono hk _ _ _ (h1 B w c hc), h2⟩
theorem IsD.mono {l : Lf} {K L m : Nat} (h : IsD l K m) (hk : K ≤ L) : IsD l L m := fun B w c hc => dr_mono hk _ _ _ (h B w c hc)
theorem IsZ.mono {ls : List Lf} {K L : Nat} {z : Int} (h : IsZ ls K z) (hk : K ≤ L) : IsZ ls L z := by
  obtain ⟨s, xs, h1, h2⟩ := h
  refine ⟨s, xs, fun B w cs hc => ?_, h2⟩
  have := h1 B w cs hc
  match cs, this with
  | [_, _], ⟨q1, q2, q3⟩ => exact ⟨q1, lr_mono hk _ _ _ q2, q3⟩
theorem IsR.mono {ls : List Lf} {K L : Nat} {z : Int} (h : IsR ls K z) (hk : K ≤ L) : IsR ls L z := fun B w cs hc => rn_mono hk _ _ _ (h B w cs hc)
theorem isz_nil : IsZ [.v (.bool false), .v (.slice none 0 0)] 0 0 := let ⟨s, xs, h1, h2⟩ := isz 0 0; ⟨s, xs, fun B w cs h => h1 B w cs (nil_ls h), h2⟩
theorem isr_nil : IsR [.v (.slice none 0 0), .v (.bool false)] 0 0 := fun B w cs h => nil_rs h
theorem isl_nil : IsL (.v (.slice none 0 0)) 0 0 := by
  refine ⟨[], ?_, rfl⟩
  rintro B w c ⟨rfl, _⟩
  exact lr_R (Rw.nil _ _ _) (Nat.zero_le _) (fun x h => by cases h)
theorem isd_nil : IsD (.v (.slice none 0 0)) 0 0 := by
  rintro B w c ⟨rfl, _⟩
  exact dr_R (Rw.nil _ _ _) (Nat.zero_le _) (fun x h => by cases h)

/-- Cells one by one are a limb row. -/
theorem isl_row {n : Nat} {el : Nat → Nat → Lf} {xs : List Nat} (hn : xs.length = n) (hx : ∀ x ∈ xs, x < B32) (he : ∀ i, i < n → el i 0 = .v (.int .u32 ((xs.getD i 0 : Nat) : Int))) : IsL (.row 1 n el) n (val xs) := by
  refine ⟨xs, ?_, rfl⟩
  rintro B w c ⟨a, cap, rfl, h1, h2, h3⟩
  subst hn
  refine lr_R ⟨rfl, h1, h2, hx, ?_⟩ (Nat.le_refl _) (fun x hx' hne hb => ?_)
  · rcases Nat.eq_zero_or_pos xs.length with h0 | h0
    · have : xs = [] := List.eq_nil_of_length_eq_zero h0
      subst this; exact Or.inl rfl
    · obtain ⟨b, off, rfl, _, _, _⟩ := h3 0 h0
      refine Or.inr ⟨b, off, rfl, fun j hj => ?_⟩
      have hj' : j < xs.length := by simpa [ints] using hj
      obtain ⟨b', off', he', _, _, h4⟩ := h3 j hj'
      cases he'
      obtain ⟨x, hx1, hx2⟩ := h4 0 (by omega)
      rw [he j hj'] at hx2
      obtain ⟨rfl, _⟩ := hx2
      rw [Nat.mul_one, Nat.add_zero] at hx1
      rw [hx1, ints_get]
      simp [hj']
  · obtain ⟨b, off, he', hb', _, _⟩ := h3 0 (List.length_pos_iff.2 hne)
    rw [he'] at hx'
    cases hx'
    exact hb' hb

/-! ### Functions: less is asked, less is said -/
def DsLe : List DV → List DV → Prop
  | [], [] => True
  | a :: us, b :: bs => (∀ B w v, DR B w a v → DR B w b v) ∧ DsLe us bs
  | _, _ => False
theorem dl0 : DsLe [] [] := trivial
theorem dl {a b : DV} {us bs : List DV} (h : ∀ B w v, DR B w a v → DR B w b v) (k : DsLe us bs) : DsLe (a :: us) (b :: bs) := ⟨h, k⟩
theorem DsLe.ok {B : BS} {w : World} : ∀ {us bs : List DV} {vs : List Value}, DsLe us bs → DsR B w us vs → DsR B w bs vs
  | [], [], [], _, h => h
  | a :: us, b :: bs, v :: vs, h, k => ⟨h.1 _ _ _ k.1, DsLe.ok h.2 k.2⟩
theorem ACall.le {P : Program} {f : FuncId} {us bs : List DV} {r r' : AV} (h : DsLe us bs) (hr : AV.le r r') (k : ACall P f bs r) : ACall P f us r' :=
  ⟨k.en, fun B w vs hB hvs => (k.go B w vs hB (h.ok hvs)).mono fun e w' ⟨v, he, hb, hv⟩ => ⟨v, he, hb, hr _ _ _ _ hv⟩⟩
theorem DV.same {a : DV} : ∀ B w v, DR B w a v → DR B w a v := fun _ _ _ h => h
theorem DV.z {a : List Lf} {s : Bool} {K : Nat} {xs : List Nat} (h : ∀ B w cs, LsR B w a cs → LsR B w [.v (.bool s), lr K xs] cs) : ∀ B w v, DR B w (.agg a) v → DR B w (.agg [.v (.bool s), lr K xs]) v := fun B w v ⟨cs, e, hl⟩ => ⟨cs, e, h _ _ _ hl⟩
theorem DV.l {a b : Lf} (h : ∀ B w c, LfR B w a c → LfR B w b c) : ∀ B w v, DR B w (.one a) v → DR B w (.one b) v := fun B w v hl => h _ _ _ hl
theorem DV.g {a b : List Lf} (h : ∀ B w c, LsR B w a c → LsR B w b c) : ∀ B w v, DR B w (.agg a) v → DR B w (.agg b) v := fun B w v ⟨cs, e, hl⟩ => ⟨cs, e, h _ _ _ hl⟩

/-! ### Contracts out of the walks -/

theorem enters {P : Program} {f : FuncId} {fn : Func} (hf : P.funcs[f]? = some fn) (hb : fn.body.isSome = true) (hnm : (fn.name == "runtime.NumGoroutine") = false) : ∀ vs w, (callFunc f vs).run P w = .ok (.enter f vs) w := by
  intro vs w
  have hnm' : ¬ fn.name = "runtime.NumGoroutine" := by simpa using hnm
  obtain ⟨c, hc⟩ := Option.isSome_iff_exists.1 hb
  simp [callFunc, hf, hc, hnm']

theorem limbs_K {w : World} {k c N K : Nat} {a : Option Addr} (h : Rw .u32 B32 w a k c (limbs N)) (hN : N < B32 ^ K) : k ≤ K := by
  have := limbs_le hN
  rwa [h.len] at this
theorem digs_K {w : World} {k c N K : Nat} {a : Option Addr} (h : Rw .i64 B4 w a k c (digs4 N)) (hN : N < B4 ^ K) : k ≤ K := by
  have := digs4_le hN
  rwa [h.len] at this
theorem lr_lt {w : World} {a : Option Addr} {n c K : Nat} {xs : List Nat} (hr : Rw .u32 B32 w a n c xs) (h : n ≤ K) : val xs < B32 ^ K :=
  Nat.lt_of_lt_of_le (val_lt hr.lt) (Nat.pow_le_pow_right (by decide) (by rw [hr.len]; exact h))
theorem dn_lt {w : World} {a : Option Addr} {n c K m : Nat} (hr : Rw .i64 B4 w a n c (digs4 m)) (h : n ≤ K) : m < B4 ^ K := by
  have h3 := val4_lt (digs4_lt m)
  rw [val4_digs4, hr.len] at h3
  exact Nat.lt_of_lt_of_le h3 (Nat.pow_le_pow_right (by decide) h)
theorem max_add_lt {B a b K L : Nat} (hB : 2 ≤ B) (ha : a < B ^ K) (hb : b < B ^ L) : a + b < B ^ (max K L + 1) := by
  have h1 : B ^ K ≤ B ^ (max K L) := Nat.pow_le_pow_right (by omega) (by omega)
  have h2 : B ^ L ≤ B ^ (max K L) := Nat.pow_le_pow_right (by omega) (by omega)
  have h3 : B ^ (max K L + 1) = B ^ (max K L) * B := Nat.pow_succ _ _
  have h4 : B ^ (max K L) * 2 ≤ B ^ (max K L) * B := Nat.mul_le_mul_left _ hB
  omega
theorem mul_lt_pow {B a b K L : Nat} (ha : a < B ^ K) (hb : b < B ^ L) : a * b < B ^ (K + L) := by
  rw [Nat.pow_add]
  have : a * b ≤ a * B ^ L := Nat.mul_le_mul_left _ (Nat.le_of_lt hb)
  have h0 : 0 < B ^ L := by omega
  exact Nat.lt_of_le_of_lt this (Nat.mul_lt_mul_of_pos_right ha h0)

end Go.Proofs.Ytpnoklbijfmoaaa

/-
  THE ABSTRACT MACHINE: A REGION THAT DRAWS ITS ORDER, WITH STORES: a store may come ahead of operations that stand before it. No condition; nothing of the program.
-/
set_option linter.unusedVariables false
set_option linter.unusedSimpArgs false
namespace Go.Proofs.Ytpnoklbijfmoaaa
open Go.RowKit Am

def avId : AV → Option Nat
  | .ptr id _ | .own id | .eptr id _ _ _ | .lim id _ | .ptup id _ | .wit id => some id
  | _ => none
/-- The objects that operands speak of. -/
def idsOf (s : AS) (l : List Operand) : List Nat := l.filterMap fun x => (geto s x).bind avId
theorem idsOf_mem {s : AS} {l : List Operand} {x : Operand} {av : AV} {id : Nat} (hx : x ∈ l) (hg : geto s x = some av) (hi : avId av = some id) : id ∈ idsOf s l :=
  List.mem_filterMap.2 ⟨x, hx, by rw [hg]; exact hi⟩
/-- Operations whose answer, or whose deed, hangs on objects. -/
def isLen : Op → Bool
  | .call c => match c.callee with
    | .builtin .len => true
    | _ => false
  | _ => false
theorem isLen_c {c : Call} (h : isLen (.call c) = true) : c.callee = .builtin .len := by
  simp only [isLen] at h
  split at h
  · assumption
  · cases h
def isRd : Op → Bool
  | .load .. | .indexAddr .. | .store .. => true
  | .call c => !isLen (.call c)
  | _ => false
/-- A row's length. -/
def rowN (o : Option AO) : Option Nat := match unO o with
  | some (.row _ _ n _) => some n
  | _ => none
theorem rowN_of {o : Option AO} {n : Nat} (h : rowN o = some n) : ∃ e sz el, unO o = some (.row e sz n el) := by
  unfold rowN at h
  split at h
  · rename_i he; cases h; exact ⟨_, _, _, he⟩
  · cases h
theorem rowN_some {o : Option AO} {n : Nat} (h : rowN o = some n) : o.isSome = true := by
  cases o with
  | none => cases h
  | some x => rfl
theorem AO.un_put {new ob : AO} : (AO.put new ob).un = new.un := by
  induction ob with
  | «is» x ob ih => exact ih
  | _ => rfl
theorem rowN_put {new ob : AO} (h : new.un = new) (k : rowN (some new) = rowN (some ob.un)) : rowN (some (AO.put new ob)) = rowN (some ob) := by
  have h1 : ∀ o : AO, o.un.un = o.un := fun o => by
    induction o with
    | «is» x ob ih => exact ih
    | _ => rfl
  have e1 : rowN (some (AO.put new ob)) = rowN (some new) := by unfold rowN unO; simp only [AO.un_put]
  have e2 : rowN (some ob.un) = rowN (some ob) := by unfold rowN unO; simp only [h1]
  rw [e1, k, e2]
/-- The objects that such an operation speaks of. -/
def idsR (s : AS) (op : Op) : List Nat := bif isRd op then idsOf s op.operands.toList else []
theorem idsR_of {s : AS} {op : Op} {id : Nat} (h : id ∈ idsR s op) : id ∈ idsOf s op.operands.toList := by
  unfold idsR at h
  cases e : isRd op with
  | true => rw [e] at h; exact h
  | false => rw [e] at h; cases h
theorem idsR_to {s : AS} {op : Op} {id : Nat} (hr : isRd op = true) (h : id ∈ idsOf s op.operands.toList) : id ∈ idsR s op := by
  unfold idsR; rw [hr]; exact h
theorem avId_R {ρ : Rho} {B : BS} {w : World} {av : AV} {c : Value} {id : Nat} (hi : avId av = some id) (h : AR ρ B w av c) : ∃ v, ρ id = some v := by
  cases av <;> simp only [avId, Option.some.injEq, reduceCtorEq] at hi
  · subst hi; obtain ⟨g, h1, _⟩ := h; exact ⟨_, h1⟩
  · subst hi; exact ⟨_, h.1⟩
  · subst hi; obtain ⟨g, n, cap, h1, _⟩ := h; exact ⟨_, h1⟩
  · subst hi; obtain ⟨_, v, h1, _⟩ := h; exact ⟨_, h1⟩
  · subst hi; obtain ⟨g, h1, _⟩ := h; exact ⟨_, h1⟩
  · subst hi; obtain ⟨v, h1⟩ := h; exact ⟨_, h1⟩

section
variable {P : Program} {T : TypeId → Option TI} {ops : Array Oper} {s s' : AS} {o : Oper} {Q : Qs}

theorem evV_congr2 {op : Op} (hnl : isLen op = false) (h : ∀ x ∈ op.operands, geto s x = geto s' x) (hh : ∀ id ∈ idsR s op, lk s.hp id = lk s'.hp id) : evV T s op = evV T s' op := by
  have key : isRd op = true → ∀ x ∈ op.operands, ∀ av id, geto s x = some av → avId av = some id → lk s.hp id = lk s'.hp id := fun hr x hx av id hg hi => hh id (idsR_to hr (idsOf_mem (by simpa using hx) hg hi))
  have e1 : evV T s op = evV T ⟨s.n, s.sl, s'.hp⟩ op := by
    have g : ∀ x, geto s x = geto ⟨s.n, s.sl, s'.hp⟩ x := fun x => by cases x with | const v => cases v <;> rfl | _ => rfl
    have hint : ∀ x, ints2 s x = ints2 ⟨s.n, s.sl, s'.hp⟩ x := fun x => by unfold ints2; rw [g x]
    cases op with
    | load t x =>
      simp only [evV]
      rw [← g x]
      split
      · rfl
      · split
        · rename_i id off hx; unfold lkU; rw [key rfl x (by simp [Op.operands]) _ id hx rfl]
        · rename_i id sz i j hx; unfold lkU; rw [key rfl x (by simp [Op.operands]) _ id hx rfl]
        · rfl
        · rfl
    | indexAddr t x ix =>
      simp only [evV]
      rw [← g x, ← hint ix]
      split
      · rfl
      · split
        · rfl
        · split
          · split
            · rfl
            · rename_i id hx; unfold lkU; rw [key rfl x (by simp [Op.operands]) _ id hx rfl]
            · rfl
          · rfl
    | call c =>
      have hl : getls s c.args.toList = getls ⟨s.n, s.sl, s'.hp⟩ c.args.toList := getls_congr _ fun x _ => g x
      simp only [evV]
      rw [hl]
      split
      · split
        · rename_i x t ha ht
          rw [← g x]
          split
          · rfl
          · split
            · rfl
            · rfl
            · rfl
            · rename_i id he hx
              unfold lkU; rw [key (by show (!isLen (.call c)) = true; rw [hnl]; rfl) x (by simp only [Op.operands, Call.operands]; exact Array.mem_append.2 (Or.inr (by have : x ∈ c.args.toList := (by rw [ha]; simp); simpa using this))) _ id hx rfl]
            · rfl
        · rfl
      · rfl
      · rfl
      · rfl
    | move x => exact g x
    | assign x => exact g x
    | pick c a b => simp only [evV]; rw [g c, g a, g b]
    | binOp op t x y yt => simp only [evV]; rw [g x, g y]
    | unOp op t x => simp only [evV]; rw [g x]
    | convert src dst x => simp only [evV]; rw [g x]
    | fieldAddr t x f => simp only [evV]; rw [g x]
    | field t x f => simp only [evV]; rw [g x]
    | extract x i => simp only [evV]; rw [g x]
    | slice t x lo hi mx =>
      cases mx with
      | some m => rfl
      | none =>
        have hlo : ∀ y d, bndV s y d = bndV ⟨s.n, s.sl, s'.hp⟩ y d := by
          intro y d
          cases y with
          | none => rfl
          | some y => simp only [bndV]; rw [hint y]
        simp only [evV, ← g x, ← hlo]
    | build t ps =>
      simp only [evV]
      rw [getps_congr ps.toList (fun p _ => g p.2)]
    | makeFunc fn fi caps =>
      have hl := getls_congr caps.toList (fun x _ => g x)
      cases fn <;> first | rfl | (simp only [evV]; rw [hl])
    | _ => rfl
  rw [e1]
  refine evV_congr rfl (fun x hx => ?_)
  rw [← h x hx]
  cases x with
  | const v => cases v <;> rfl
  | _ => rfl

theorem evV_len {op : Op} {av : AV} (hl : isLen op = true) (h : ∀ x ∈ op.operands, geto s x = geto s' x) (hh : ∀ id ∈ idsOf s op.operands.toList, ∀ n, rowN (lk s.hp id) = some n → rowN (lk s'.hp id) = some n) (he : evV T s op = some av) : evV T s' op = some av := by
  cases op with
  | call c =>
    have hc := isLen_c hl
    simp only [evV, hc] at he ⊢
    split at he
    · rename_i x t ha ht
      have hx : x ∈ (Op.call c).operands := (by simp only [Op.operands, Call.operands]; exact Array.mem_append.2 (Or.inr (by have : x ∈ c.args.toList := (by rw [ha]; simp); simpa using this)))
      rw [← h x hx]
      split at he
      · cases he
      · rename_i ti hti
        cases hel : ti.elem with
        | none => rw [hel] at he; simp at he
        | some e =>
          rw [hel] at he
          cases hg : geto s x with
          | none => rw [hg] at he; simp at he
          | some gv =>
            rw [hg] at he
            cases gv with
            | own id =>
              simp only at he ⊢
              split at he
              · rename_i e0 sz0 n0 el0 hlk
                obtain ⟨e1, sz1, el1, h1⟩ := rowN_of (hh id (idsOf_mem (by simpa using hx) hg rfl) n0 (by unfold rowN; rw [show unO (lk s.hp id) = _ from hlk]))
                rw [show lkU s'.hp id = _ from h1]
                exact he
              · cases he
            | d dv =>
              cases dv with
              | agg ls => simp at he
              | one l =>
                cases l with
                | v x => cases x <;> first | exact he | (simp at he; done)
                | _ => first | exact he | (simp at he; done)
            | _ => simp at he
    · cases he
  | _ => cases hl

theorem evS_congr2 {op : Op} (h : ∀ x ∈ op.operands, geto s x = geto s' x) (hh : ∀ id ∈ idsR s op, lk s.hp id = lk s'.hp id) : evS T s op = evS T s' op := by
  cases op with
  | store t x y =>
    have hx := h x (by simp [Op.operands])
    have hy := h y (by simp [Op.operands])
    have key : ∀ av id, geto s x = some av → avId av = some id → lk s.hp id = lk s'.hp id := fun av id hg hi => hh id (idsR_to rfl (idsOf_mem (x := x) (by simp [Op.operands]) hg hi))
    simp only [evS]
    rw [← hx, ← hy]
    split
    · rfl
    · split
      · rename_i id off d hgx hgy; unfold lkP; rw [key _ id hgx rfl]
      · rename_i id sz i d hgx hgy; unfold lkP; rw [key _ id hgx rfl]
      · rfl
  | _ => rfl

def isSt : Op → Bool
  | .store .. => true
  | _ => false
def isNw : Op → Bool
  | .alloc .. | .box .. | .makeSlice .. => true
  | _ => false
theorem evS_id {op : Op} {id : Nat} {ob : AO} (h : evS T s op = some (id, ob)) : isSt op = true ∧ id ∈ idsR s op ∧ (lk s.hp id).isSome = true ∧ rowN (some ob) = rowN (lk s.hp id) := by
  cases op with
  | store t x y =>
    refine ⟨rfl, ?_⟩
    simp only [evS] at h
    split at h
    · cases h
    · split at h
      · rename_i id' off d hgx hgy
        split at h
        · rename_i hlk
          split at h
          · simp only [Option.some.injEq, Prod.mk.injEq] at h; obtain ⟨rfl, rfl⟩ := h; obtain ⟨q1, q2⟩ := lkP_ok hlk; exact ⟨idsR_to rfl (idsOf_mem (x := x) (by simp [Op.operands]) hgx rfl), by rw [q1]; rfl, by rw [q1]; exact rowN_put rfl (by rw [q2]; rfl)⟩
          · cases h
        · cases h
      · rename_i id' sz i d hgx hgy
        split at h
        · rename_i hlk
          split at h
          · simp only [Option.some.injEq, Prod.mk.injEq] at h; obtain ⟨rfl, rfl⟩ := h; obtain ⟨q1, q2⟩ := lkP_ok hlk; exact ⟨idsR_to rfl (idsOf_mem (x := x) (by simp [Op.operands]) hgx rfl), by rw [q1]; rfl, by rw [q1]; exact rowN_put rfl (by rw [q2]; rfl)⟩
          · cases h
        · cases h
      · cases h
  | _ => simp [evS] at h
theorem evN_nw {op : Op} {ob : AO} (h : evN T s op = some ob) : isNw op = true := by
  cases op <;> first | rfl | simp [evN] at h

/-- Does the operation wait for that one, or for one that does? -/
def reach (ops : Array Oper) : Nat → Oper → Nat → Bool
  | 0, _, _ => false
  | f + 1, o, k => waitsOn o k || o.after.toList.any fun e => Region.binds .any e && match ops[e.on]? with
    | some o' => reach ops f o' k
    | none => false
theorem reach_ok {ops : Array Oper} {D : Nat → Prop} (hcl : ∀ k ok, ops[k]? = some ok → D k → ∀ j, waitsOn ok j = true → D j) : ∀ (f : Nat) (o : Oper) (k : Nat), (∀ j, waitsOn o j = true → D j) → reach ops f o k = true → D k
  | 0, _, _, _, h => by cases h
  | f + 1, o, k, hw, h => by
    rw [reach, Bool.or_eq_true] at h
    rcases h with h | h
    · exact hw k h
    · obtain ⟨e, he, h2⟩ := List.any_eq_true.1 h
      rw [Bool.and_eq_true] at h2
      obtain ⟨hb, h3⟩ := h2
      split at h3
      · rename_i o' ho'
        have hDe : D e.on := hw e.on (List.any_eq_true.2 ⟨e, he, by rw [hb]; exact beq_self_eq_true _⟩)
        exact reach_ok hcl f o' k (hcl _ _ ho' hDe) h3
      · cases h3
/-- Does the operation wait for those with which it may not change places? -/
def cflB (ops : Array Oper) (log : List (Nat × List Nat × Bool)) (o : Oper) (ids : List Nat) : Bool :=
  (log.all fun q => !(isSt o.op || q.2.2) || ids.all (fun id => !(q.2.1).contains id) || reach ops 6 o q.1) &&
  (!isNw o.op || match o.dst with
    | some d => log.all fun q => !(q.2.1).contains d
    | none => true)
inductive ChS (P : Program) (T : TypeId → Option TI) (ops : Array Oper) (K : AS → Prop) : Nat → List (Nat × List Nat × Bool) → List Oper → AS → Prop
  | nil {i : Nat} {log : List (Nat × List Nat × Bool)} {s : AS} (h : K s) : ChS P T ops K i log [] s
  | cons {i : Nat} {log : List (Nat × List Nat × Bool)} {o : Oper} {l : List Oper} {s s1 : AS} (h : OpS P T ops o s s1) (hc : cflB ops log o (idsR s o.op) = true) (k : ChS P T ops K (i + 1) ((i, idsR s o.op, isSt o.op) :: log) l s1) : ChS P T ops K i log (o :: l) s

abbrev idO (st : Nat → AS) (i : Nat) (o : Oper) : List Nat := idsR (st i) o.op
theorem ChS.st {K : AS → Prop} {i0 : Nat} {log : List (Nat × List Nat × Bool)} {l : List Oper} (h : ChS P T ops K i0 log l s) : ∃ st : Nat → AS, st 0 = s ∧ K (st l.length) ∧ (∀ (i : Nat) (o : Oper), l[i]? = some o → OpS P T ops o (st i) (st (i + 1))) ∧
    (∀ (i : Nat) (o : Oper), l[i]? = some o → ∀ q ∈ log, (isSt o.op = true ∨ q.2.2 = true) → ∀ id ∈ idO st i o, id ∈ q.2.1 → reach ops 6 o q.1 = true) ∧
    (∀ (i : Nat) (o : Oper), l[i]? = some o → isNw o.op = true → ∀ d, o.dst = some d → ∀ q ∈ log, ¬ d ∈ q.2.1) ∧
    (∀ (i : Nat) (o : Oper) (k : Nat) (ok : Oper), k < i → l[i]? = some o → l[k]? = some ok → (isSt o.op = true ∨ isSt ok.op = true) → ∀ id ∈ idO st i o, id ∈ idO st k ok → reach ops 6 o (i0 + k) = true) ∧
    (∀ (i : Nat) (o : Oper) (k : Nat) (ok : Oper), k < i → l[i]? = some o → l[k]? = some ok → isNw o.op = true → ∀ d, o.dst = some d → ¬ d ∈ idO st k ok) := by
  induction h with
  | nil h => exact ⟨fun _ => _, rfl, h, by simp, by simp, by simp, by simp, by simp⟩
  | @cons i0 log o l s s1 h hc k ih =>
    obtain ⟨st, h1, h2, h3, h4, h5, h6, h7⟩ := ih
    simp only [cflB, Bool.and_eq_true, Bool.or_eq_true, List.all_eq_true] at hc
    obtain ⟨hc1, hc2⟩ := hc
    refine ⟨fun i => match i with | 0 => s | i + 1 => st i, rfl, h2, ?_, ?_, ?_, ?_, ?_⟩
    · intro i o' ho
      cases i with
      | zero => obtain rfl : o = o' := by simpa using ho
                show OpS P T ops o s (st 0); rw [h1]; exact h
      | succ i => exact h3 i o' (by simpa using ho)
    · intro i o' ho q hq hst id hid hidq
      cases i with
      | zero =>
        obtain rfl : o = o' := by simpa using ho
        rcases hc1 q hq with (h8 | h8) | h8
        · exfalso; rcases hst with e | e <;> simp [e] at h8
        · exfalso
          have h9 := h8 id hid
          simp at h9; exact h9 hidq
        · exact h8
      | succ i => exact h4 i o' (by simpa using ho) q (List.mem_cons_of_mem _ hq) hst id hid hidq
    · intro i o' ho hnw d hd q hq
      cases i with
      | zero =>
        obtain rfl : o = o' := by simpa using ho
        rcases hc2 with h8 | h8
        · rw [hnw] at h8; cases h8
        · rw [hd] at h8
          have h9 := List.all_eq_true.1 h8 q hq
          simpa using h9
      | succ i => exact h5 i o' (by simpa using ho) hnw d hd q (List.mem_cons_of_mem _ hq)
    · intro i o' k' ok hk ho hok hst id hid hidk
      cases i with
      | zero => omega
      | succ i =>
        cases k' with
        | zero =>
          obtain rfl : o = ok := by simpa using hok
          exact h4 i o' (by simpa using ho) (i0, idsR s o.op, isSt o.op) (List.mem_cons_self ..) hst id hid hidk
        | succ k' =>
          have := h6 i o' k' ok (by omega) (by simpa using ho) (by simpa using hok) hst id hid hidk
          rwa [show i0 + 1 + k' = i0 + (k' + 1) by omega] at this
    · intro i o' k' ok hk ho hok hnw d hd
      cases i with
      | zero => omega
      | succ i =>
        cases k' with
        | zero =>
          obtain rfl : o = ok := by simpa using hok
          exact h5 i o' (by simpa using ho) hnw d hd (i0, idsR s o.op, isSt o.op) (List.mem_cons_self ..)
        | succ k' => exact h7 i o' k' ok (by omega) (by simpa using ho) (by simpa using hok) hnw d hd

/-- What an operation does to slots and objects. -/
theorem OpS.shape2 (h : OpS P T ops o s s') : s'.n = s.n ∧ (∀ d, o.dst = some d → s'.sl = (d, avh s') :: s.sl) ∧ (o.dst = none → s'.sl = s.sl) ∧
    ∃ wr : Option (Nat × AO), s'.hp = wr.toList ++ s.hp ∧ ∀ p, wr = some p → (isNw o.op = true ∧ o.dst = some p.1 ∧ lk s.hp p.1 = none) ∨ (isSt o.op = true ∧ p.1 ∈ idsR s o.op ∧ (lk s.hp p.1).isSome = true ∧ rowN (some p.2) = rowN (lk s.hp p.1)) := by
  have put : ∀ av, (s.put o.dst av).n = s.n ∧ (∀ d, o.dst = some d → (s.put o.dst av).sl = (d, avh (s.put o.dst av)) :: s.sl) ∧ (o.dst = none → (s.put o.dst av).sl = s.sl) ∧
      ∃ wr : Option (Nat × AO), (s.put o.dst av).hp = wr.toList ++ s.hp ∧ ∀ p, wr = some p → (isNw o.op = true ∧ o.dst = some p.1 ∧ lk s.hp p.1 = none) ∨ (isSt o.op = true ∧ p.1 ∈ idsR s o.op ∧ (lk s.hp p.1).isSome = true ∧ rowN (some p.2) = rowN (lk s.hp p.1)) := by
    intro av
    cases hd : o.dst with
    | none => exact ⟨rfl, fun d h => (by cases h), fun _ => rfl, none, rfl, fun p h => (by cases h)⟩
    | some d => exact ⟨rfl, fun d' h => (by cases h; rfl), fun h => (by cases h), none, rfl, fun p h => (by cases h)⟩
  cases h with
  | V av h hg hk => exact put av
  | B av h hg hk => exact put av
  | X av h hg hk => exact put av
  | G hg hk => exact put .dead
  | C h hc hf ha hg hk => exact put _
  | N ob h d hdst hfr hg hk =>
    refine ⟨rfl, fun d' h' => (by rw [hdst] at h'; cases h'; rfl), fun h' => (by rw [hdst] at h'; cases h'), some (d, ob), rfl, fun p hp => Or.inl ?_⟩
    cases hp
    exact ⟨evN_nw h, hdst, hfr⟩
  | S id ob h hdst hg =>
    refine ⟨rfl, fun d' h' => (by rw [hdst] at h'; cases h'), fun _ => rfl, some (id, ob), rfl, fun p hp => Or.inr ?_⟩
    cases hp
    exact evS_id h

open Classical in
/-- The objects, when the operations of D are done. -/
noncomputable def hpD (hp : List (Nat × AO)) (wr : Nat → Option (Nat × AO)) (D : Nat → Prop) : Nat → List (Nat × AO)
  | 0 => hp
  | m + 1 => if D m then (wr m).toList ++ hpD hp wr D m else hpD hp wr D m
theorem hpD_pos {hp : List (Nat × AO)} {wr : Nat → Option (Nat × AO)} {D : Nat → Prop} {m : Nat} (h : D m) : hpD hp wr D (m + 1) = (wr m).toList ++ hpD hp wr D m := if_pos h
theorem hpD_neg {hp : List (Nat × AO)} {wr : Nat → Option (Nat × AO)} {D : Nat → Prop} {m : Nat} (h : ¬ D m) : hpD hp wr D (m + 1) = hpD hp wr D m := if_neg h
theorem hpD_congr {hp : List (Nat × AO)} {wr : Nat → Option (Nat × AO)} {D D' : Nat → Prop} : ∀ {m : Nat}, (∀ k, k < m → (D k ↔ D' k)) → hpD hp wr D m = hpD hp wr D' m
  | 0, _ => rfl
  | m + 1, h => by
    have ih := hpD_congr (hp := hp) (wr := wr) (m := m) fun k hk => h k (by omega)
    by_cases e : D m
    · rw [hpD_pos e, hpD_pos ((h m (by omega)).1 e), ih]
    · rw [hpD_neg e, hpD_neg (fun e' => e ((h m (by omega)).2 e')), ih]
theorem hpD_lk {hp : List (Nat × AO)} {wr : Nat → Option (Nat × AO)} {D D' : Nat → Prop} {id : Nat} : ∀ {m : Nat}, (∀ k p, k < m → wr k = some p → p.1 = id → (D k ↔ D' k)) → lk (hpD hp wr D m) id = lk (hpD hp wr D' m) id
  | 0, _ => rfl
  | m + 1, h => by
    have ih := hpD_lk (hp := hp) (wr := wr) (m := m) fun k p hk => h k p (by omega)
    have one : ∀ (E : Nat → Prop), (∀ p, wr m = some p → p.1 ≠ id) → lk (hpD hp wr E (m + 1)) id = lk (hpD hp wr E m) id := by
      intro E hne
      by_cases e : E m
      · rw [hpD_pos e]
        cases hw : wr m with
        | none => rfl
        | some p =>
          obtain ⟨a, b⟩ := p
          show lk ((a, b) :: hpD hp wr E m) id = _
          rw [lk_cons, if_neg (hne (a, b) hw)]
      · rw [hpD_neg e]
    by_cases hw : ∃ p, wr m = some p ∧ p.1 = id
    · obtain ⟨p, hp1, hp2⟩ := hw
      have hiff := h m p (by omega) hp1 hp2
      by_cases e : D m
      · rw [hpD_pos e, hpD_pos (hiff.1 e), hp1]
        show lk ((p.1, p.2) :: _) id = lk ((p.1, p.2) :: _) id
        rw [lk_cons, lk_cons, if_pos hp2, if_pos hp2]
      · rw [hpD_neg e, hpD_neg (fun e' => e (hiff.2 e')), ih]
    · have hne : ∀ p, wr m = some p → p.1 ≠ id := fun p h1 h2 => hw ⟨p, h1, h2⟩
      rw [one D hne, one D' hne, ih]
theorem Core.lkc {ρ : Rho} {B0 : BS} {w0 : Wz} {w : World} {hp hp' : List (Nat × AO)} (h : Core ρ B0 w0 w hp) (hl : ∀ id, (∃ v, ρ id = some v) → lk hp id = lk hp' id) : Core ρ B0 w0 w hp' :=
  ⟨h.bel, h.b0, fun id v hv => by rw [← hl id ⟨v, hv⟩]; exact h.obj id v hv, h.dist⟩

/-- The states on the way. -/
structure WayS (ops : Array Oper) (l : List Oper) (n : Nat) (st : Nat → AS) (wr : Nat → Option (Nat × AO)) : Prop where
  nn : ∀ i : Nat, i ≤ n → (st i).n = (st 0).n
  at1 : ∀ i, i ≤ n → ∀ t k o, k < i → l[k]? = some o → o.dst = some t → lk (st i).sl t = some (avh (st (k + 1)))
  at2 : ∀ i, i ≤ n → ∀ t, (∀ k o, k < i → l[k]? = some o → o.dst ≠ some t) → lk (st i).sl t = lk (st 0).sl t
  hp : ∀ i, i ≤ n → hpD (st 0).hp wr (fun k => k < i) n = (st i).hp
  wrs : ∀ i o p, i < n → l[i]? = some o → wr i = some p → (isNw o.op = true ∧ o.dst = some p.1 ∧ lk (st i).hp p.1 = none) ∨ (isSt o.op = true ∧ p.1 ∈ idO st i o ∧ (lk (st i).hp p.1).isSome = true ∧ rowN (some p.2) = rowN (lk (st i).hp p.1))
  up : ∀ i, i < n → (st (i + 1)).hp = (wr i).toList ++ (st i).hp
  grow : ∀ i, i ≤ n → ∀ id, (lk (st 0).hp id).isSome = true → (lk (st i).hp id).isSome = true

theorem wayS {l : List Oper} {n : Nat} {st : Nat → AS} (hl : n ≤ l.length) (hone : ∀ i k oi ok d, i < n → k < n → l[i]? = some oi → l[k]? = some ok → k ≠ i → ok.dst = some d → oi.dst ≠ some d) (h : ∀ i o, i < n → l[i]? = some o → OpS P T ops o (st i) (st (i + 1))) : ∃ wr, WayS ops l n st wr := by
  have step : ∀ i, ∃ wr : Option (Nat × AO), i < n → (st (i + 1)).n = (st i).n ∧ (∀ o, l[i]? = some o → (∀ d, o.dst = some d → (st (i + 1)).sl = (d, avh (st (i + 1))) :: (st i).sl) ∧ (o.dst = none → (st (i + 1)).sl = (st i).sl)) ∧ (st (i + 1)).hp = wr.toList ++ (st i).hp ∧
      ∀ o p, l[i]? = some o → wr = some p → (isNw o.op = true ∧ o.dst = some p.1 ∧ lk (st i).hp p.1 = none) ∨ (isSt o.op = true ∧ p.1 ∈ idO st i o ∧ (lk (st i).hp p.1).isSome = true ∧ rowN (some p.2) = rowN (lk (st i).hp p.1)) := by
    intro i
    by_cases hi : i < n
    · have ho : l[i]? = some (l[i]'(by omega)) := by simp
      obtain ⟨h1, h2, h3, wr, h4, h5⟩ := (OpS.shape2 (h i _ hi ho))
      refine ⟨wr, fun _ => ⟨h1, fun o ho' => ?_, h4, fun o p ho' hp => ?_⟩⟩
      · rw [ho] at ho'; cases ho'; exact ⟨h2, h3⟩
      · rw [ho] at ho'; cases ho'; exact h5 p hp
    · exact ⟨none, fun h => absurd h hi⟩
  obtain ⟨wr, hw⟩ := Classical.skolem.1 step
  have up : ∀ i, i < n → (st (i + 1)).hp = (wr i).toList ++ (st i).hp := fun i hi => (hw i hi).2.2.1
  have hat : ∀ i, i ≤ n → ∀ t, (∀ k o, k < i → l[k]? = some o → o.dst = some t → lk (st i).sl t = some (avh (st (k + 1)))) ∧ ((∀ k o, k < i → l[k]? = some o → o.dst ≠ some t) → lk (st i).sl t = lk (st 0).sl t) := by
    intro i
    induction i with
    | zero => intro _ t; exact ⟨fun k o hk => absurd hk (Nat.not_lt_zero _), fun _ => rfl⟩
    | succ i ih =>
      intro hi t
      obtain ⟨ih1, ih2⟩ := ih (by omega) t
      have ho : l[i]? = some (l[i]'(by omega)) := by simp
      obtain ⟨hs1, hs2⟩ := (hw i (by omega)).2.1 _ ho
      cases hd : (l[i]'(by omega)).dst with
      | none =>
        rw [hs2 hd]
        refine ⟨fun k o hk hko hkd => ?_, fun hno => ih2 fun k o hk hko => hno k o (by omega) hko⟩
        by_cases hki : k = i
        · subst hki; rw [ho] at hko; cases hko; rw [hd] at hkd; cases hkd
        · exact ih1 k o (by omega) hko hkd
      | some d =>
        rw [hs1 d hd, lk_cons]
        refine ⟨fun k o hk hko hkd => ?_, fun hno => ?_⟩
        · by_cases hki : k = i
          · subst hki; rw [ho] at hko; cases hko; rw [hd] at hkd; cases hkd; rw [if_pos rfl]
          · rw [if_neg (fun e => hone i k _ o t (by omega) (by omega) ho hko hki hkd (by rw [hd, e]))]
            exact ih1 k o (by omega) hko hkd
        · rw [if_neg (fun e => hno i _ (by omega) ho (by rw [hd, e]))]
          exact ih2 (fun k o hk hko => hno k o (by omega) hko)
  have hp1 : ∀ i, i ≤ n → ∀ m, m ≤ n → hpD (st 0).hp wr (fun k => k < i) m = (st (min i m)).hp := by
    intro i hi m
    induction m with
    | zero => intro _; rw [Nat.min_zero]; rfl
    | succ m ih =>
      intro hm
      by_cases e : m < i
      · rw [hpD_pos (D := fun k => k < i) e, ih (by omega), Nat.min_eq_right (by omega), Nat.min_eq_right (by omega), up m (by omega)]
      · rw [hpD_neg (D := fun k => k < i) e, ih (by omega), Nat.min_eq_left (by omega), Nat.min_eq_left (by omega)]
  refine ⟨wr, ⟨fun i => ?_, fun i hi t k o => (hat i hi t).1 k o, fun i hi t => (hat i hi t).2, fun i hi => by rw [hp1 i hi n (Nat.le_refl _), Nat.min_eq_left hi], fun i o p hi ho hp => (hw i hi).2.2.2 o p ho hp, up, fun i => ?_⟩⟩
  · induction i with
    | zero => intro _; rfl
    | succ i ih => intro hi; rw [(hw i (by omega)).1, ih (by omega)]
  · induction i with
    | zero => intro _ id h; exact h
    | succ i ih =>
      intro hi id h
      rw [up i (by omega)]
      cases hwi : wr i with
      | none => exact ih (by omega) id h
      | some p =>
        show (lk ((p.1, p.2) :: (st i).hp) id).isSome = true
        rw [lk_cons]
        split
        · rfl
        · exact ih (by omega) id h

theorem WayS.len {l : List Oper} {n : Nat} {st : Nat → AS} {wr : Nat → Option (Nat × AO)} (hw : WayS ops l n st wr) (hl : n ≤ l.length) {id j : Nat} (hj : (lk (st j).hp id).isSome = true) : ∀ k, j ≤ k → k ≤ n → (lk (st k).hp id).isSome = true ∧ rowN (lk (st k).hp id) = rowN (lk (st j).hp id) := by
  intro k hjk
  induction hjk with
  | refl => exact fun _ => ⟨hj, rfl⟩
  | @step k _ ih =>
    intro hk
    obtain ⟨h1, h2⟩ := ih (by omega)
    have ho : l[k]? = some (l[k]'(by omega)) := by simp
    rw [hw.up k (by omega)]
    cases hwr : wr k with
    | none => exact ⟨h1, h2⟩
    | some p =>
      show (lk ((p.1, p.2) :: (st k).hp) id).isSome = true ∧ rowN (lk ((p.1, p.2) :: (st k).hp) id) = _
      rw [lk_cons]
      by_cases e : p.1 = id
      · rw [if_pos e]
        refine ⟨rfl, ?_⟩
        rcases hw.wrs k _ p (by omega) ho hwr with ⟨_, _, h3⟩ | ⟨_, _, _, h4⟩
        · rw [e] at h3; rw [h3] at h1; cases h1
        · rw [h4, e, h2]
      · rw [if_neg e]; exact ⟨h1, h2⟩
theorem WayS.lenD {l : List Oper} {n : Nat} {st : Nat → AS} {wr : Nat → Option (Nat × AO)} (hw : WayS ops l n st wr) {id : Nat} {D : Nat → Prop} {ob : AO} : ∀ m, m ≤ n → lk (hpD (st 0).hp wr D m) id = some ob → ∃ j, j ≤ n ∧ (lk (st j).hp id).isSome = true ∧ rowN (some ob) = rowN (lk (st j).hp id)
  | 0, _, h => ⟨0, Nat.zero_le _, by rw [show lk (st 0).hp id = some ob from h]; rfl, by rw [show lk (st 0).hp id = some ob from h]⟩
  | m + 1, hm, h => by
    by_cases e : D m
    · rw [hpD_pos e] at h
      cases hwr : wr m with
      | none => rw [hwr] at h; exact WayS.lenD hw m (by omega) h
      | some p =>
        rw [hwr] at h
        have h' : lk ((p.1, p.2) :: hpD (st 0).hp wr D m) id = some ob := h
        rw [lk_cons] at h'
        by_cases e2 : p.1 = id
        · rw [if_pos e2] at h'
          have h3 : lk (st (m + 1)).hp id = some ob := by
            rw [hw.up m (by omega), hwr]
            show lk ((p.1, p.2) :: (st m).hp) id = some ob
            rw [lk_cons, if_pos e2]; exact h'
          exact ⟨m + 1, hm, by rw [h3]; rfl, by rw [h3]⟩
        · rw [if_neg e2] at h'; exact WayS.lenD hw m (by omega) h'
    · rw [hpD_neg e] at h; exact WayS.lenD hw m (by omega) h

/-- What holds when the operations of D are done. -/
def JS (l : List Oper) (n : Nat) (st : Nat → AS) (wr : Nat → Option (Nat × AO)) (B0 : BS) (w0 : Wz) (a0 : Act) (D : Nat → Prop) (vs : Nat → Value) (w : World) : Prop :=
  ∃ ρ, Core ρ B0 w0 w (hpD (st 0).hp wr D n) ∧ (∀ id v, ρ id = some v → (lk (st 0).hp id).isSome = true ∨ ∃ k o, k < n ∧ D k ∧ l[k]? = some o ∧ o.dst = some id) ∧
    (∀ k p, k < n → D k → wr k = some p → ∃ v, ρ p.1 = some v) ∧
    (∀ t av, lk (st 0).sl t = some av → (∀ k o, k < n → l[k]? = some o → D k → o.dst ≠ some t) → ∃ v, a0.tmps[t]? = some v ∧ AR ρ (Bd ρ B0) w av v) ∧ (∀ k o d, k < n → D k → l[k]? = some o → o.dst = some d → AR ρ (Bd ρ B0) w (avh (st (k + 1))) (vs k))

theorem JS.congr {l : List Oper} {n : Nat} {st : Nat → AS} {wr : Nat → Option (Nat × AO)} {B0 : BS} {w0 : Wz} {a0 : Act} (D D' : Nat → Prop) (vs vs' : Nat → Value) (w : World) (h : JS l n st wr B0 w0 a0 D vs w) (hD : ∀ k, k < n → (D k ↔ D' k)) (hv : ∀ k, k < n → D k → vs k = vs' k) : JS l n st wr B0 w0 a0 D' vs' w := by
  obtain ⟨ρ, h1, h2, h5, h3, h4⟩ := h
  refine ⟨ρ, hpD_congr hD ▸ h1, fun id v h => ?_, fun k p hk hDk => h5 k p hk ((hD k hk).2 hDk), fun t av ht hno => h3 t av ht (fun k o hk ho hDk => hno k o hk ho ((hD k hk).1 hDk)), fun k o d hk hDk ho hd => ?_⟩
  · rcases h2 id v h with h | ⟨k, o, hk, hDk, h⟩
    · exact Or.inl h
    · exact Or.inr ⟨k, o, hk, (hD k hk).1 hDk, h⟩
  · rw [← hv k hk ((hD k hk).2 hDk)]
    exact h4 k o d hk ((hD k hk).2 hDk) ho hd

/-- One more value (if it goes anywhere); the objects' values are the same ones. -/
theorem JS.same {l : List Oper} {n : Nat} {st : Nat → AS} {wr : Nat → Option (Nat × AO)} {B0 : BS} {w0 : Wz} {a0 : Act} {D : Nat → Prop} {vs : Nat → Value} {w w' : World} {i : Nat} {v : Value} {ρ : Rho} {oi : Oper} (hoi : l[i]? = some oi) (hb : Keep (Bd ρ B0) w w') (h1 : Core ρ B0 w0 w' (hpD (st 0).hp wr (andI D i) n))
    (h2 : ∀ id v, ρ id = some v → (lk (st 0).hp id).isSome = true ∨ ∃ k o, k < n ∧ D k ∧ l[k]? = some o ∧ o.dst = some id)
    (h5 : ∀ k p, k < n → D k → wr k = some p → ∃ v, ρ p.1 = some v) (h6 : ∀ p, wr i = some p → ∃ v, ρ p.1 = some v)
    (h3 : ∀ t av, lk (st 0).sl t = some av → (∀ k o, k < n → l[k]? = some o → D k → o.dst ≠ some t) → ∃ v, a0.tmps[t]? = some v ∧ AR ρ (Bd ρ B0) w av v)
    (h4 : ∀ k o d, k < n → D k → l[k]? = some o → o.dst = some d → AR ρ (Bd ρ B0) w (avh (st (k + 1))) (vs k)) (hv : ∀ d, oi.dst = some d → AR ρ (Bd ρ B0) w' (avh (st (i + 1))) v) (hni : ¬ D i) : JS l n st wr B0 w0 a0 (andI D i) (setI vs i v) w' := by
  have mvv : ∀ {av : AV} {c : Value}, AR ρ (Bd ρ B0) w av c → AR ρ (Bd ρ B0) w' av c := fun h => AR.mv hb (fun _ _ h => h) (fun _ _ => rfl) h
  refine ⟨ρ, h1, fun id u h => ?_, fun k p hk hDk hp => ?_, fun t av ht hno => ?_, fun k o d hk hDk ho hd => ?_⟩
  · rcases h2 id u h with h | ⟨k, o, hk, hDk, h⟩
    · exact Or.inl h
    · exact Or.inr ⟨k, o, hk, Or.inl hDk, h⟩
  · rcases hDk with hDk | rfl
    · exact h5 k p hk hDk hp
    · exact h6 p hp
  · obtain ⟨u, h7, h8⟩ := h3 t av ht (fun k o hk ho hDk => hno k o hk ho (Or.inl hDk))
    exact ⟨u, h7, mvv h8⟩
  · unfold setI
    by_cases e : k = i
    · subst e
      rw [hoi] at ho; cases ho
      rw [if_pos rfl]; exact hv d hd
    · rw [if_neg e]
      rcases hDk with hDk | hDk
      · exact mvv (h4 k o d hk hDk ho hd)
      · exact absurd hDk e

set_option maxHeartbeats 1000000 in
/-- A REGION THAT DRAWS, WITH STORES: n operations in the order of the text, each a value or a store; then the others one after another. -/
theorem cDrawS (hT : TOk P T) {id : Nat} {l : List Oper} (n : Nat) {s : AS} (hm : P.follows .mixedOrders = true) (hB : allB l.toArray n s.n = true) (h : ChS P T l.toArray (fun s1 => AL P l.toArray Q (l.drop n) s1) 0 [] (l.take n) s) : AW P (.region id l.toArray true) Q s := by
  rintro B0 w0 a0 w ⟨ρ0, hc0, hn0, hdf0, hs0⟩
  have hB' := hB
  simp only [allB, Bool.and_eq_true, decide_eq_true_eq, Bool.or_eq_true] at hB'
  obtain ⟨⟨⟨⟨hsel, hreg⟩, hnle⟩, _⟩, _⟩ := hB'
  have hr := regB_ok hreg
  have hnl : n ≤ l.length := by simpa using hnle
  obtain ⟨st, hst0, kk, hop0, _, _, hcf0, hnw0⟩ := h.st
  have hlen : (l.take n).length = n := by simp; omega
  rw [hlen] at kk
  have htk : ∀ {i : Nat} {o : Oper}, i < n → l[i]? = some o → (l.take n)[i]? = some o := fun hi ho => by rw [List.getElem?_take, if_pos hi]; exact ho
  have hop : ∀ i o, i < n → l[i]? = some o → OpS P T l.toArray o (st i) (st (i + 1)) := fun i o hi ho => hop0 i o (htk hi ho)
  have hcf : ∀ i o k ok, k < i → i < n → l[i]? = some o → l[k]? = some ok → (isSt o.op = true ∨ isSt ok.op = true) → ∀ id ∈ idO st i o, id ∈ idO st k ok → reach l.toArray 6 o k = true := fun i o k ok hk hi ho hok hs id h1 h2 => by
    have := hcf0 i o k ok hk (htk hi ho) (htk (by omega) hok) hs id h1 h2
    rwa [Nat.zero_add] at this
  have hnw : ∀ i o k ok, k < i → i < n → l[i]? = some o → l[k]? = some ok → isNw o.op = true → ∀ d, o.dst = some d → ¬ d ∈ idO st k ok := fun i o k ok hk hi ho hok => hnw0 i o k ok hk (htk hi ho) (htk (by omega) hok)
  have hone : ∀ i k oi ok d, i < n → k < n → l[i]? = some oi → l[k]? = some ok → k ≠ i → ok.dst = some d → oi.dst ≠ some d := fun i k oi ok d hi hk hoi hok => hr.one i k oi ok d hi hk (by simpa using hoi) (by simpa using hok)
  obtain ⟨wr, hway⟩ := wayS hnl hone hop
  subst hst0
  refine wp_region_J (J := JS l n st wr B0 w0 a0) n (st 0).n hm hn0 hdf0 hB (fun D D' vs vs' w h => JS.congr D D' vs vs' w h) ?_ ?_ ?_
  · have hK : Keep (Bd ρ0 B0) w w.drew := ⟨Nat.le_refl _, fun _ _ _ => rfl⟩
    have hz : hpD (st 0).hp wr (fun _ => False) n = (st 0).hp := (hpD_congr (D' := fun k => k < 0) fun k _ => by simp).trans (hway.hp 0 (Nat.zero_le _))
    refine ⟨ρ0, ⟨hc0.bel.step (Below.refl _ _).drew, hc0.b0, fun id v h => ?_, hc0.dist⟩, fun id v h => ?_, fun k p _ h => h.elim, fun t av ht _ => ?_, fun k o d _ h => h.elim⟩
    · obtain ⟨ob, h1, h2⟩ := hc0.obj id v h
      exact ⟨ob, by rw [hz]; exact h1, h2.mv hK (fun _ _ hb => hb) (fun _ _ => rfl)⟩
    · obtain ⟨ob, h1, h2⟩ := hc0.obj id v h
      exact Or.inl (by rw [h1]; rfl)
    · obtain ⟨v, h1, h2⟩ := hs0 t av ht
      exact ⟨v, h1, AR.mv hK (fun _ _ hb => hb) (fun _ _ => rfl) h2⟩
  · intro i o hi ho D vs w' hni hwait hclo hJ
    have ho' : l[i]? = some o := by simpa using ho
    have hA := puts_inv (a0 := a0) (ops := l.toArray) rfl hr hn0 hnl vs i (Nat.le_of_lt hi)
    obtain ⟨ρ, hc, h2, h5, h3, h4⟩ := hJ
    have hSl : Slots ρ (Bd ρ B0) w' (pickS (st i).sl (o.looksAt l.toArray)) (putsR (l.take i) 0 a0 vs) := by
      intro t av ht
      obtain ⟨hts, hlk⟩ := pickS_mem _ t av ht
      by_cases hex : ∃ k ok, k < i ∧ l[k]? = some ok ∧ ok.dst = some t
      · obtain ⟨k, ok, hk, hok, hkd⟩ := hex
        have hok' : l.toArray[k]? = some ok := by simpa using hok
        rw [hway.at1 i (Nat.le_of_lt hi) t k ok hk hok hkd] at hlk
        cases hlk
        refine ⟨vs k, hA.wr k ok t (by omega) hok' hk hkd, h4 k ok t (by omega) ?_ hok hkd⟩
        rcases hr.look i k o ok t hi (by omega) ho hok' (by omega) hkd hts with ⟨_, h⟩ | ⟨h, _⟩
        · exact hwait k h
        · omega
      · have hno : ∀ k ok, k < i → l[k]? = some ok → ok.dst ≠ some t := fun k ok hk hok hkd => hex ⟨k, ok, hk, hok, hkd⟩
        rw [hway.at2 i (Nat.le_of_lt hi) t hno] at hlk
        obtain ⟨v, h7, h8⟩ := h3 t av hlk (fun k ok hk hok hDk hkd => by
          have hok' : l.toArray[k]? = some ok := by simpa using hok
          by_cases hki : k = i
          · subst hki; exact hni hDk
          · rcases hr.look i k o ok t hi hk ho hok' hki hkd hts with ⟨h, _⟩ | ⟨_, h⟩
            · exact hno k ok h hok hkd
            · exact hni (hclo k ok hok' hDk i h))
        refine ⟨v, ?_, h8⟩
        rw [hA.no t (fun k ok hk hok hki => hno k ok hki (by simpa using hok))]
        exact h7
    -- the objects that it speaks of are as the text has them
    have hidρ0 : ∀ id ∈ idsOf (st i) o.op.operands.toList, ∃ v, ρ id = some v := by
      intro id hid
      obtain ⟨x, hx, hg⟩ := List.mem_filterMap.1 hid
      cases hgx : geto (st i) x with
      | none => rw [hgx] at hg; cases hg
      | some av =>
        rw [hgx] at hg
        have hav : avId av = some id := hg
        cases x with
        | tmp t =>
          have hm : t ∈ o.looksAt l.toArray := List.mem_append_left _ (List.mem_filterMap.2 ⟨.tmp t, by simpa using hx, rfl⟩)
          obtain ⟨v, _, h8⟩ := hSl t av (by rw [lk_pickS _ t hm]; exact hgx)
          exact avId_R hav h8
        | const v => cases v <;> simp only [geto, Option.some.injEq, reduceCtorEq] at hgx <;> (subst hgx; cases hav)
        | func f => simp only [geto, Option.some.injEq] at hgx; subst hgx; cases hav
        | global g => simp [geto] at hgx
    have hidρ : ∀ id ∈ idO st i o, ∃ v, ρ id = some v := fun id hid => hidρ0 id (idsR_of hid)
    have hiff : ∀ id ∈ idO st i o, ∀ k p, k < n → wr k = some p → p.1 = id → (D k ↔ k < i) := by
      intro id hid k p hk hp hpid
      have hok : l[k]? = some (l[k]'(by omega)) := by simp
      have hok' : l.toArray[k]? = some (l[k]'(by omega)) := by simp
      rcases hway.wrs k _ p hk hok hp with ⟨hN, hdk, hnone⟩ | ⟨hS, hmem, _⟩
      · rw [hpid] at hdk hnone
        obtain ⟨v, hv⟩ := hidρ id hid
        have hDk : D k := by
          rcases h2 id v hv with h | ⟨k', o', hk', hDk', ho'', hd'⟩
          · have := hway.grow k (Nat.le_of_lt hk) id h
            rw [hnone] at this; cases this
          · by_cases e : k' = k
            · subst e; exact hDk'
            · exact absurd hdk (hone k k' _ o' id hk hk' hok ho'' e hd')
        refine ⟨fun _ => ?_, fun _ => hDk⟩
        rcases Nat.lt_trichotomy k i with h | h | h
        · exact h
        · subst h; exact absurd hDk hni
        · exact absurd hid (hnw k _ i o h hk hok ho' hN id hdk)
      · rw [hpid] at hmem
        rcases Nat.lt_trichotomy k i with h | h | h
        · exact ⟨fun _ => h, fun _ => reach_ok hclo 6 o k hwait (hcf i o k _ h hi ho' hok (Or.inr hS) id hid hmem)⟩
        · subst h; exact ⟨fun h => absurd h hni, fun h => absurd h (Nat.lt_irrefl _)⟩
        · exact ⟨fun hDk => absurd (reach_ok hclo 6 _ i (hclo k _ hok' hDk) (hcf k _ i o h hk hok ho' (Or.inl hS) id hmem hid)) hni, fun h' => by omega⟩
    have hlkD : ∀ id ∈ idO st i o, lk (st i).hp id = lk (hpD (st 0).hp wr D n) id := by
      intro id hid
      rw [← hway.hp i (Nat.le_of_lt hi)]
      exact (hpD_lk fun k p hk hp hpid => hiff id hid k p hk hp hpid).symm
    let s2 : AS := ⟨(st i).n, pickS (st i).sl (o.looksAt l.toArray), hpD (st 0).hp wr D n⟩
    have hget : ∀ x ∈ o.op.operands, geto (st i) x = geto s2 x := by
      intro x hx
      cases x with
      | tmp t =>
        have hm : t ∈ o.looksAt l.toArray := List.mem_append_left _ (List.mem_filterMap.2 ⟨.tmp t, by simpa using hx, rfl⟩)
        exact (lk_pickS _ t hm).symm
      | const v => cases v <;> rfl
      | _ => rfl
    have hg' : gst l.toArray (st i) o = gst l.toArray s2 o := gst_congr (fun t ht => (lk_pickS _ t ht).symm)
    have hAd : (putsR (l.take i) 0 a0 vs).defers = [] := hA.defs.trans hdf0
    have hdef : ∀ v, ((putsR (l.take i) 0 a0 vs).put o.dst v).defers = [] := fun v => by cases hd : o.dst <;> exact hAd
    have hval : ∀ v d, o.dst = some d → Am.valOf o ((putsR (l.take i) 0 a0 vs).put o.dst v) = v := fun v d hd => Am.valOf_put hd (by rw [hA.size, hn0]; exact hr.dst i o d hi ho hd)
    have hO := hop i o hi ho'
    have hsh := OpS.shape2 hO
    have hwri : ∀ {hp'}, (st (i + 1)).hp = hp' → hp' = (st i).hp → wr i = none := by
      intro hp' e1 e2
      have := hway.up i hi
      rw [e1, e2] at this
      cases hw : wr i with
      | none => rfl
      | some p => rw [hw] at this; have h9 := congrArg List.length this; simp at h9
    have hnone : wr i = none → Core ρ B0 w0 w' (hpD (st 0).hp wr (andI D i) n) := fun hw => Core.lkc hc fun id _ => hpD_lk fun k p hk hp hpid => by
      unfold andI
      constructor
      · exact Or.inl
      · rintro (h | rfl)
        · exact h
        · rw [hw] at hp; cases hp
    have fin : ∀ {w2 : World} {v : Value} {av : AV}, st (i + 1) = (st i).put o.dst av → Below w'.heap.size w' w2 → AR ρ (Bd ρ B0) w2 av v → JS l n st wr B0 w0 a0 (andI D i) (setI vs i (Am.valOf o ((putsR (l.take i) 0 a0 vs).put o.dst v))) w2 := by
      intro w2 v av he hb hv
      have hw : wr i = none := hwri (hp' := ((st i).put o.dst av).hp) (by rw [he]) (by cases o.dst <;> rfl)
      refine JS.same ho' (.of_below hb) ((hnone hw).below hb) h2 h5 (fun p hp => by rw [hw] at hp; cases hp) h3 h4 (fun d hd => ?_) hni
      rw [hval v d hd]
      have : avh (st (i + 1)) = av := by rw [he, hd]; rfl
      rw [this]; exact hv
    obtain ⟨s3, hs3⟩ : ∃ s3, s3 = st (i + 1) := ⟨_, rfl⟩
    rw [← hs3] at hO
    cases hO with
    | V av h hg hk =>
      rw [hg'] at hg
      replace h : evV T s2 o.op = some av := by
        cases hln : isLen o.op with
        | false => rwa [evV_congr2 (T := T) (op := o.op) (s := st i) (s' := s2) hln hget hlkD] at h
        | true =>
          refine evV_len hln hget (fun id hid n0 hn0' => ?_) h
          obtain ⟨v0, hv0⟩ := hidρ0 id hid
          obtain ⟨ob, ho1, _⟩ := hc.obj id v0 hv0
          show rowN (lk (hpD (st 0).hp wr D n) id) = some n0
          rw [ho1]
          obtain ⟨j, hj, hj1, hj2⟩ := hway.lenD n (Nat.le_refl _) ho1
          have hi1 : (lk (st i).hp id).isSome = true := by
            exact rowN_some hn0'
          rw [hj2, ← hn0']
          rcases Nat.le_total j i with hji | hji
          · exact ((hway.len hnl hj1 i hji (Nat.le_of_lt hi)).2).symm
          · exact (hway.len hnl hi1 j hji hj).2
      obtain ⟨v, hrun, hv⟩ := evV_ok (s := s2) hT hSl hc (fun _ _ h => h) h
      exact ifW_pos (gst_ok (s := s2) hg hSl) (wp_value' (a := a0) hrun ⟨hdef v, fin hs3.symm (Below.refl _ _) hv⟩)
    | B av h hg hk =>
      rw [hg'] at hg
      rw [evB_congr (T := T) (op := o.op) (s := st i) (s' := s2) hget] at h
      obtain ⟨v, w2, hrun, hb, hv⟩ := evB_ok (s := s2) hT hSl hc h
      exact ifW_pos (gst_ok (s := s2) hg hSl) (wp_value' (a := a0) hrun ⟨hdef v, fin hs3.symm hb hv⟩)
    | X av h hg hk =>
      rw [hg'] at hg
      obtain ⟨v, hrun, hv⟩ := h ρ (Bd ρ B0) w' (putsR (l.take i) 0 a0 vs) (fun x hx av' hgx => geto_ok (s := s2) hSl ((hget x hx).symm.trans hgx))
      exact ifW_pos (gst_ok (s := s2) hg hSl) (wp_value' (a := a0) hrun ⟨hdef v, fin hs3.symm (Below.refl _ _) hv⟩)
    | G hg hk =>
      rw [hg'] at hg
      refine ifW_neg (gst_ok (s := s2) hg hSl) ?_
      have hw : wr i = none := hwri (hp' := ((st i).put o.dst .dead).hp) (by rw [← hs3]) (by cases o.dst <;> rfl)
      refine JS.same ho' (.of_below (Below.refl _ _)) (hnone hw) h2 h5 (fun p hp => by rw [hw] at hp; cases hp) h3 h4 (fun d hd => ?_) hni
      have : avh (st (i + 1)) = .dead := by rw [← hs3, hd]; rfl
      rw [this]; trivial
    | C h hcl hf ha hg hk =>
      rename_i c f cap ds res
      rw [hg'] at hg
      have hop' : o.op = .call c := by
        unfold callOf at hcl
        split at hcl
        · rename_i h; cases hcl; exact h
        · cases hcl
      have hgc : ∀ x ∈ c.operands, geto (st i) x = geto s2 x := fun x hx => hget x (by rw [hop']; exact hx)
      rw [fnOf_congr hgc] at hf
      rw [getds_congr _ (fun x hx => hgc x (Array.mem_append.2 (Or.inr (by simpa using hx))))] at ha
      obtain ⟨us, hus, hrun⟩ := run_call (s := s2) hSl hcl hf ha h.en
      refine ifW_pos (gst_ok (s := s2) hg hSl) ?_
      unfold Oper.wp
      rw [hrun]
      refine (h.go (Bd ρ B0) w' us hc.bdlt hus).mono ?_
      rintro e w2 ⟨v, rfl, hb, hv⟩
      exact ⟨hdef v, fin hs3.symm hb hv.lift⟩
    | S id ob h hdst hg =>
      rw [hg'] at hg
      obtain ⟨hst, hid, _⟩ := evS_id h
      rw [evS_congr2 (T := T) (op := o.op) (s := st i) (s' := s2) hget hlkD] at h
      obtain ⟨w2, hrun, hc2, hk2⟩ := evS_ok (s := s2) hT hSl hc h
      refine ifW_pos (gst_ok (s := s2) hg hSl) ?_
      unfold Oper.wp
      rw [hrun]
      refine ⟨hdef _, ?_⟩
      have hup := hway.up i hi
      rw [← hs3] at hup
      have hwi : wr i = some (id, ob) := by
        cases hw : wr i with
        | none =>
          rw [hw] at hup
          have h9 := congrArg List.length hup
          simp at h9
        | some p =>
          rw [hw] at hup
          have h9 : (id, ob) :: (st i).hp = p :: (st i).hp := hup
          exact congrArg some (List.cons.inj h9).1.symm
      have hcc : Core ρ B0 w0 w2 (hpD (st 0).hp wr (andI D i) n) := by
        refine Core.lkc hc2 fun id' _ => ?_
        show lk ((id, ob) :: hpD (st 0).hp wr D n) id' = _
        rw [lk_cons]
        by_cases e : id = id'
        · subst e
          rw [if_pos rfl]
          have e1 : lk (hpD (st 0).hp wr (andI D i) n) id = lk (hpD (st 0).hp wr (fun k => k < i + 1) n) id := hpD_lk fun k p hk hp hpid => by
            unfold andI
            rw [hiff id hid k p hk hp hpid]
            omega
          rw [e1, hway.hp (i + 1) (by omega), ← hs3]
          show some ob = lk ((id, ob) :: (st i).hp) id
          rw [lk_cons, if_pos rfl]
        · rw [if_neg e]
          refine hpD_lk fun k p hk hp hpid => ?_
          unfold andI
          constructor
          · exact Or.inl
          · rintro (h | rfl)
            · exact h
            · rw [hwi] at hp; cases hp; exact absurd hpid e
      exact JS.same ho' hk2 hcc h2 h5 (fun p hp => by rw [hwi] at hp; cases hp; exact hidρ id hid) h3 h4 (fun d hd => by rw [hdst] at hd; cases hd) hni
    | N ob h d hd hfr hg hk =>
      rw [hg'] at hg
      have hnwo := evN_nw h
      rw [evN_congr (T := T) (op := o.op) (s := st i) (s' := s2) hget] at h
      obtain ⟨v, w2, hrun, hb, hvb, hob⟩ := evN_ok (s := s2) hT hSl hc h
      have hup := hway.up i hi
      rw [← hs3] at hup
      have hwi : wr i = some (d, ob) := by
        cases hw : wr i with
        | none =>
          rw [hw] at hup
          have h9 := congrArg List.length hup
          simp [AS.mk'] at h9
        | some p =>
          rw [hw] at hup
          have h9 : (d, ob) :: (st i).hp = p :: (st i).hp := hup
          exact congrArg some (List.cons.inj h9).1.symm
      have h0none : (lk (st 0).hp d).isSome = false := by
        cases hq : (lk (st 0).hp d).isSome with
        | false => rfl
        | true => have := hway.grow i (Nat.le_of_lt hi) d hq; rw [hfr] at this; cases this
      have hρ : ρ d = none := by
        cases hq : ρ d with
        | none => rfl
        | some u =>
          rcases h2 d u hq with h7 | ⟨k, ok, hk', hDk, hok, hkd⟩
          · rw [h0none] at h7; cases h7
          · by_cases hki : k = i
            · subst hki; exact absurd hDk hni
            · exact absurd hd (hone i k o ok d hi hk' ho' hok hki hkd)
      have hO2 := hob (Bd (up ρ d v) B0) (up_new hρ hvb)
      have hdiff : ∀ k p, k < n → wr k = some p → p.1 = d → (andI D i k ↔ k < i + 1) := by
        intro k p hk' hp hpd
        have hok : l[k]? = some (l[k]'(by omega)) := by simp
        by_cases e : k = i
        · subst e; exact ⟨fun _ => by omega, fun _ => Or.inr rfl⟩
        · have hnD : ¬ D k := fun hDk => by
            obtain ⟨u, hu⟩ := h5 k p hk' hDk hp
            rw [hpd, hρ] at hu; cases hu
          refine ⟨fun h => ?_, fun h => ?_⟩
          · rcases h with h | h
            · exact absurd h hnD
            · exact absurd h e
          · exfalso
            rcases hway.wrs k _ p hk' hok hp with ⟨_, hdk, _⟩ | ⟨_, hmem, _⟩
            · rw [hpd] at hdk
              exact hone i k o _ d hi hk' ho' hok e hdk hd
            · rw [hpd] at hmem
              exact hnw i o k _ (by omega) hi ho' hok hnwo d hd hmem
      have hlast : lk (hpD (st 0).hp wr (andI D i) n) d = some ob := by
        rw [hpD_lk (D' := fun k => k < i + 1) hdiff, hway.hp (i + 1) (by omega), ← hs3]
        show lk ((d, ob) :: (st i).hp) d = some ob
        rw [lk_cons, if_pos rfl]
      have hoth : ∀ id', id' ≠ d → lk (hpD (st 0).hp wr D n) id' = lk (hpD (st 0).hp wr (andI D i) n) id' := fun id' hne => hpD_lk fun k p hk' hp hpid => by
        unfold andI
        constructor
        · exact Or.inl
        · rintro (h | rfl)
          · exact h
          · rw [hwi] at hp; cases hp; exact absurd hpid.symm hne
      have hc2 : Core (up ρ d v) B0 w0 w2 (hpD (st 0).hp wr (andI D i) n) := hc.new hρ hb hvb (fun k ob' hk' hne => by rw [← hoth k hne]; exact hk') hlast hO2
      refine ifW_pos (gst_ok (s := s2) hg hSl) (wp_value' (a := a0) hrun ⟨hdef v, ?_⟩)
      refine ⟨_, hc2, fun id u hu => ?_, fun k p hk' hDk hp => ?_, fun t av ht hno => ?_, fun k ok d' hk' hDk hok hd' => ?_⟩
      · unfold up at hu
        split at hu
        · rename_i e
          exact Or.inr ⟨i, o, hi, Or.inr rfl, ho', by rw [hd, e]⟩
        · rcases h2 id u hu with h7 | ⟨k, ok, hk', hDk, h7⟩
          · exact Or.inl h7
          · exact Or.inr ⟨k, ok, hk', Or.inl hDk, h7⟩
      · unfold up
        split
        · exact ⟨_, rfl⟩
        · rename_i hne
          rcases hDk with hDk | rfl
          · exact h5 k p hk' hDk hp
          · rw [hwi] at hp; cases hp; exact absurd rfl hne
      · obtain ⟨u, h7, h8⟩ := h3 t av ht (fun k o hk ho hDk => hno k o hk ho (Or.inl hDk))
        exact ⟨u, h7, h8.new hρ hb hvb⟩
      · unfold setI
        by_cases e : k = i
        · subst e
          rw [if_pos rfl, hval v d hd, ← hs3]
          exact AO.av_ok hO2 (by simp [up])
        · rw [if_neg e]
          rcases hDk with hDk | hDk
          · exact (h4 k ok d' hk' hDk hok hd').new hρ hb hvb
          · exact absurd hDk e
  · intro D vs w' hall hJ
    obtain ⟨ρ, hc, h2, h5, h3, h4⟩ := hJ
    have hA := puts_inv (a0 := a0) (ops := l.toArray) rfl hr hn0 hnl vs n (Nat.le_refl _)
    have hhp : hpD (st 0).hp wr D n = (st n).hp := by
      rw [← hway.hp n (Nat.le_refl _)]
      exact hpD_congr fun k hk => ⟨fun _ => hk, fun _ => hall k hk⟩
    rw [hhp] at hc
    refine kk B0 w0 _ w' ⟨ρ, hc, ?_, hA.defs.trans hdf0, fun t av ht => ?_⟩
    · rw [hA.size, hn0, hway.nn n (Nat.le_refl _)]
    · by_cases hex : ∃ k ok, k < n ∧ l[k]? = some ok ∧ ok.dst = some t
      · obtain ⟨k, ok, hk, hok, hkd⟩ := hex
        rw [hway.at1 n (Nat.le_refl _) t k ok hk hok hkd] at ht
        cases ht
        exact ⟨vs k, hA.wr k ok t hk (by simpa using hok) hk hkd, h4 k ok t hk (hall k hk) hok hkd⟩
      · have hno : ∀ k ok, k < n → l[k]? = some ok → ok.dst ≠ some t := fun k ok hk hok hkd => hex ⟨k, ok, hk, hok, hkd⟩
        rw [hway.at2 n (Nat.le_refl _) t hno] at ht
        obtain ⟨v, h7, h8⟩ := h3 t av ht (fun k o hk hok _ => hno k o hk hok)
        refine ⟨v, ?_, h8⟩
        rw [hA.no t (fun k o hk hok _ => hno k o hk (by simpa using hok))]
        exact h7
end
end Go.Proofs.Ytpnoklbijfmoaaa

/-
  THE ABSTRACT MACHINE, 14: the rules in the form that a program prints. No condition; nothing of the program.
-/
set_option linter.unusedVariables false
set_option linter.unusedSimpArgs false
namespace Go.Proofs.Ytpnoklbijfmoaaa
open Go.RowKit

theorem evi {k : IntKind} {a b : Int} (h : a = b) : some (AV.d (.one (.v (.int k a)))) = some (AV.d (.one (.v (.int k b)))) := by rw [h]
theorem evb {a b : Bool} (h : a = b) : some (AV.d (.one (.v (.bool a)))) = some (AV.d (.one (.v (.bool b)))) := by rw [h]

def isF : Callee → Option FuncId
  | .value (.func f) => some f
  | _ => none

section
variable {P : Program} {ops : Array Oper} {Q : Qs} {o : Oper} {l : List Oper} {s : AS}

theorem isF_fn {cal : Callee} {f : FuncId} (h : isF cal = some f) : fnOf s cal = some (f, []) := by
  unfold isF at h
  split at h
  · cases h; rfl
  · cases h

theorem mC0 {c : Call} {f : FuncId} {ds : List DV} {res : AV} (h : ACall P f ds res) (hc : callOf o.op = some c) (hf : isF c.callee = some f) (ha : getds s c.args.toList = some ds) (k : AL P ops Q l (s.put o.dst res))
    (hg : gst ops s o = some true := by rfl) (hd : dok o.dst s.n = true := by rfl) : AL P ops Q (o :: l) s :=
  mC (cap := []) (by rw [List.append_nil]; exact h) hc (isF_fn hf) ha k hg hd
theorem OpS.C0 {T : TypeId → Option TI} {c : Call} {f : FuncId} {ds : List DV} {res : AV} (h : ACall P f ds res) (hc : callOf o.op = some c) (hf : isF c.callee = some f) (ha : getds s c.args.toList = some ds) (hg : gst ops s o = some true := by rfl) (hd : dok o.dst s.n = true := by rfl) : OpS P T ops o s (s.put o.dst res) :=
  .C (cap := []) (by rw [List.append_nil]; exact h) hc (isF_fn hf) ha hg hd

/-- One after another, and K of what comes of it. -/
inductive ChK (P : Program) (T : TypeId → Option TI) (ops : Array Oper) (K : AS → Prop) : List Oper → AS → Prop
  | nil {s : AS} (h : K s) : ChK P T ops K [] s
  | cons {o : Oper} {l : List Oper} {s s1 : AS} (h : OpS P T ops o s s1) (k : ChK P T ops K l s1) : ChK P T ops K (o :: l) s
theorem ChK.ch {T : TypeId → Option TI} {K : AS → Prop} (h : ChK P T ops K l s) : ∃ s1, Ch P T ops l s s1 ∧ K s1 := by
  induction h with
  | nil h => exact ⟨_, .nil _, h⟩
  | cons h _ ih => obtain ⟨s1, h1, h2⟩ := ih; exact ⟨s1, .cons h h1, h2⟩
theorem cDrawK {T : TypeId → Option TI} (hT : TOk P T) {id : Nat} {l : List Oper} (n : Nat) {s : AS} (hm : P.follows .mixedOrders = true) (hB : Am.allB l.toArray n s.n = true) (hD : Am.dstB l.toArray n = true) (h : ChK P T l.toArray (fun s1 => AL P l.toArray Q (l.drop n) s1) (l.take n) s) : AW P (.region id l.toArray true) Q s := by
  obtain ⟨s1, h1, h2⟩ := h.ch
  exact cDraw hT n hm hB hD h1 h2

theorem cT {c : Operand} {x y : Code} (hc : geto s c = some (.d (.one (.v (.bool true))))) (h : AW P x Q s) : AW P (.cond c x y) Q s := cCond hc (fun _ => h) (fun e => by cases e)
theorem cF {c : Operand} {x y : Code} (hc : geto s c = some (.d (.one (.v (.bool false))))) (h : AW P y Q s) : AW P (.cond c x y) Q s := cCond hc (fun e => by cases e) (fun _ => h)

theorem tN {K : AS → Prop} (h : K s) : thn K Q .normal s := h
theorem tE {K : AS → Prop} {id : Nat} (h : Q (.exit id) s) : thn K Q (.exit id) s := h
theorem tR {K : AS → Prop} (h : Q .ret s) : thn K Q .ret s := h
theorem bN {id : Nat} (h : Q .normal s) : inB id Q .normal s := h
theorem bR {id : Nat} (h : Q .ret s) : inB id Q .ret s := h
theorem bE {id : Nat} (h : Q .normal s) : inB id Q (.exit id) s := by show (if id = id then Q .normal s else Q (.exit id) s); rw [if_pos rfl]; exact h
theorem bX {id id' : Nat} (hne : Nat.beq id' id = false) (h : Q (.exit id') s) : inB id Q (.exit id') s := by
  show (if id' = id then Q .normal s else Q (.exit id') s)
  rw [if_neg (fun e => by rw [e, Nat.beq_refl] at hne; cases hne)]
  exact h
theorem rQ {T : TypeId → Option TI} {rs : List ResultVar} {es : List DV} {r : AV} (h : resE T s rs = some es) (hl : AV.le (resAV es) r) : RetQ T rs r .ret s := ⟨es, h, hl⟩
theorem rQn {T : TypeId → Option TI} {rs : List ResultVar} {es : List DV} {r : AV} (h : resE T s rs = some es) (hl : AV.le (resAV es) r) : RetQ T rs r .normal s := ⟨es, h, hl⟩

theorem wkView {s : AS} (t : Nat) (av' : AV) {av : AV} (h : lk s.sl t = some av) (hl : AV.le av av') : Wk s ⟨s.n, (t, av') :: s.sl, s.hp⟩ := by
  rintro B0 w0 a w ⟨ρ, hc, hn, hdf, hs⟩
  refine ⟨ρ, hc, hn, hdf, fun u av2 hu => ?_⟩
  rw [lk_cons] at hu
  split at hu
  · rename_i e
    cases hu
    subst e
    obtain ⟨v, h1, h2⟩ := hs t av h
    exact ⟨v, h1, hl _ _ _ _ h2⟩
  · exact hs u av2 hu
theorem mView (t : Nat) (av' : AV) {av : AV} (h : lk s.sl t = some av) (hl : AV.le av av') (k : AL P ops Q l ⟨s.n, (t, av') :: s.sl, s.hp⟩) : AL P ops Q l s := AL.wk (wkView t av' h hl) k
theorem cView {c : Code} (t : Nat) (av' : AV) {av : AV} (h : lk s.sl t = some av) (hl : AV.le av av') (k : AW P c Q ⟨s.n, (t, av') :: s.sl, s.hp⟩) : AW P c Q s := AW.wk (wkView t av' h hl) k
end

theorem acallN {P : Program} {T : TypeId → Option TI} (hT : TOk P T) {f : FuncId} {fn : Func} {c : Code} {args : List DV} {r : AV} (n : Nat) (rs : List ResultVar) (hf : P.funcs[f]? = some fn) (hb : fn.body = some c) (hnm : (fn.name == "runtime.NumGoroutine") = false) (hn : fn.ntmps = n) (hrs : fn.results.toList = rs) (hlen : Nat.ble args.length n = true)
    (h : AW P c (RetQ T rs r) ⟨n, params 0 args, []⟩) : ACall P f args r := by
  subst hn; subst hrs
  exact acall hT hf hb hnm hlen h

end Go.Proofs.Ytpnoklbijfmoaaa

/-
  THE ABSTRACT MACHINE, 15: rows of numbers, rationals, polynomials: a row is its length and a function that says its coefficients (0 beyond). No condition; nothing of the program.
-/
set_option linter.unusedVariables false
set_option linter.unusedSimpArgs false
namespace Go.Proofs.Ytpnoklbijfmoaaa
open Go.RowKit

theorem wr64 {z : Int} (h1 : -9223372036854775808 ≤ z := by omega) (h2 : z ≤ 9223372036854775807 := by omega) : IntKind.i64.wrap z = z := by
  simp [IntKind.wrap, IntKind.bits, IntKind.signed]; omega

/-- Euclid's division by what it is. -/
theorem euc {x y q r : Int} (h : x = y * q + r) (h0 : 0 ≤ r) (h1 : r < y.natAbs) : q = x / y ∧ r = x % y := by
  have hy : y ≠ 0 := by intro e; subst e; simp at h1; omega
  have hr : r = x % y := by
    rw [h, Int.mul_add_emod_self_left]
    rcases Int.lt_or_gt_of_ne hy with h2 | h2
    · rw [← Int.emod_neg]; exact (Int.emod_eq_of_lt h0 (by omega)).symm
    · exact (Int.emod_eq_of_lt h0 (by omega)).symm
  refine ⟨?_, hr⟩
  have := Int.mul_ediv_add_emod x y
  rw [← hr] at this
  have h2 : y * (x / y) = y * q := by omega
  exact (Int.eq_of_mul_eq_mul_left hy h2).symm

/-! ### Normal numbers, as asked for -/
def IsN (ls : List Lf) (K : Nat) (z : Int) : Prop := ∀ B w cs, LsR B w ls cs → LsR B w (zn K z) cs
theorem isn (K : Nat) (z : Int) : IsN (zn K z) K z := fun _ _ _ h => h
theorem isn_nil : IsN [.v (.bool false), .v (.slice none 0 0)] 0 0 := fun _ _ _ h => nil_ls h
theorem IsN.isz {ls : List Lf} {K : Nat} {z : Int} (h : IsN ls K z) : IsZ ls K z := let ⟨s, xs, h1, h2⟩ := Go.Proofs.Ytpnoklbijfmoaaa.isz K z; ⟨s, xs, fun B w cs hc => h1 B w cs (h B w cs hc), h2⟩
theorem IsN.mono {ls : List Lf} {K L : Nat} {z : Int} (h : IsN ls K z) (hk : K ≤ L) : IsN ls L z := fun B w cs hc => zn_mono hk _ _ _ (h B w cs hc)

/-! ### Rows -/
theorem row_le {sz n : Nat} {el el' : Nat → Nat → Lf} (h : ∀ i, i < n → ∀ j, j < sz → ∀ B w c, LfR B w (el i j) c → LfR B w (el' i j) c) : ∀ B w c, LfR B w (.row sz n el) c → LfR B w (.row sz n el') c := by
  rintro B w c ⟨a, cap, rfl, h1, h2, h3⟩
  refine ⟨a, cap, rfl, h1, h2, fun i hi => ?_⟩
  obtain ⟨b, off, e, hb, hl, hj⟩ := h3 i hi
  exact ⟨b, off, e, hb, hl, fun j hjs => let ⟨x, hx, hl⟩ := hj j hjs; ⟨x, hx, h i hi j hjs _ _ _ hl⟩⟩
theorem le_row {sz n : Nat} {el el' : Nat → Nat → Lf} (h : ∀ i, i < n → ∀ j, j < sz → ∀ B w c, LfR B w (el i j) c → LfR B w (el' i j) c) : AV.le (.d (.one (.row sz n el))) (.d (.one (.row sz n el'))) := le_one (row_le h)
theorem leo_row {e : TypeId} {sz n : Nat} {el el' : Nat → Nat → Lf} (h : ∀ i, i < n → ∀ j, j < sz → ∀ B w c, LfR B w (el i j) c → LfR B w (el' i j) c) : AO.le (.row e sz n el) (.row e sz n el') := by
  rintro B w0 w v ⟨xs, h1, h2⟩
  exact ⟨xs, h1, fun i j hi hj => let ⟨x, hx, hl⟩ := h2 i j hi hj; ⟨x, hx, h i hi j hj _ _ _ hl⟩⟩

/-- A row of whole numbers: normal; in any form. -/
def zel (K : Nat) (c : Nat → Int) : Nat → Nat → Lf := fun i j => ((zn K (c i))[j]?).getD (.v undef)
def ael (K : Nat) (f : Nat → Bool × List Nat) : Nat → Nat → Lf := fun i j => (([.v (.bool (f i).1), lr K (f i).2] : List Lf)[j]?).getD (.v undef)
def prow (K n : Nat) (c : Nat → Int) : Lf := .row 2 n (zel K c)
def arow (K n : Nat) (f : Nat → Bool × List Nat) : Lf := .row 2 n (ael K f)
def fzv (f : Nat → Bool × List Nat) (i : Nat) : Int := zv (f i).1 (val (f i).2)
/-- What stands there is this row of numbers, whatever its form. -/
def IsP (l : Lf) (K n : Nat) (c : Nat → Int) : Prop := (∃ f, (∀ B w v, LfR B w l v → LfR B w (arow K n f) v) ∧ ∀ i, i < n → fzv f i = c i) ∧ ∀ i, n ≤ i → c i = 0
theorem isp {K n : Nat} {c : Nat → Int} (h : ∀ i, n ≤ i → c i = 0) : IsP (prow K n c) K n c :=
  ⟨⟨fun i => (decide (c i < 0), limbs (c i).natAbs), fun _ _ _ h => h, fun i _ => by unfold fzv; simp only []; rw [val_limbs]; exact zv_natAbs _⟩, h⟩
theorem isp_nil : IsP (.v (.slice none 0 0)) 0 0 (fun _ => 0) := by
  refine ⟨⟨fun _ => (false, []), ?_, fun i hi => absurd hi (Nat.not_lt_zero _)⟩, fun _ _ => rfl⟩
  rintro B w c ⟨rfl, _⟩
  exact ⟨none, 0, rfl, Nat.le_refl _, fun _ => rfl, fun i hi => absurd hi (Nat.not_lt_zero _)⟩
theorem IsP.z {l : Lf} {K n : Nat} {c : Nat → Int} (h : IsP l K n c) : ∀ i, n ≤ i → c i = 0 := h.2
theorem IsP.eq {l : Lf} {K n m : Nat} {c d : Nat → Int} (h : IsP l K n c) (e : n = m) (e' : ∀ i, c i = d i) : IsP l K m d := by
  obtain rfl : c = d := funext e'
  exact e ▸ h

theorem zel_le {K L n : Nat} {c d : Nat → Int} (hk : K ≤ L) (h : ∀ i, i < n → c i = d i) : ∀ i, i < n → ∀ j, j < 2 → ∀ B w v, LfR B w (zel K c i j) v → LfR B w (zel L d i j) v := by
  intro i hi j hj B w v hv
  unfold zel at *
  rw [← h i hi]
  match j, hj with
  | 0, _ => exact hv
  | 1, _ => exact lr_mono hk _ _ _ hv
theorem prow_le {K L n : Nat} {c d : Nat → Int} (hk : K ≤ L) (h : ∀ i, i < n → c i = d i) : ∀ B w v, LfR B w (prow K n c) v → LfR B w (prow L n d) v := row_le (zel_le hk h)
theorem le_prow {K L n m : Nat} {c d : Nat → Int} (hk : K ≤ L) (e : n = m) (h : ∀ i, i < n → c i = d i) : AV.le (.d (.one (prow K n c))) (.d (.one (prow L m d))) := by subst e; exact le_one (prow_le hk h)
theorem leo_prow {e : TypeId} {K L n : Nat} {c d : Nat → Int} (hk : K ≤ L) (h : ∀ i, i < n → c i = d i) : AO.le (.row e 2 n (zel K c)) (.row e 2 n (zel L d)) := leo_row (zel_le hk h)
theorem IsP.mono {l : Lf} {K L n : Nat} {c : Nat → Int} (h : IsP l K n c) (hk : K ≤ L) : IsP l L n c := by
  obtain ⟨⟨f, h1, h2⟩, h3⟩ := h
  refine ⟨⟨f, fun B w v hv => row_le ?_ _ _ _ (h1 B w v hv), h2⟩, h3⟩
  intro i hi j hj B w v hv
  match j, hj with
  | 0, _ => exact hv
  | 1, _ => exact lr_mono hk _ _ _ hv
theorem isa {K n : Nat} {f : Nat → Bool × List Nat} {i : Nat} : IsZ [.v (.bool (f i).1), lr K (f i).2] K (fzv f i) := iszr _ _ _
/-- A row grows by one. -/
theorem app_el {e : TypeId} {sz n m : Nat} {el el2 el' : Nat → Nat → Lf} (hm : m = n + 1) (h1 : ∀ i, i < n → ∀ j, j < sz → ∀ B w v, LfR B w (el i j) v → LfR B w (el' i j) v) (h2 : ∀ j, j < sz → ∀ B w v, LfR B w (el2 0 j) v → LfR B w (el' n j) v) : AO.le (.row e sz (n + 1) (appEl n el el2)) (.row e sz m el') := by
  subst hm
  refine leo_row fun i hi j hj B w v hv => ?_
  unfold appEl at hv
  by_cases hin : i < n
  · rw [show Nat.ble (i + 1) n = true from Nat.ble_eq_true_of_le hin] at hv
    exact h1 i hin j hj _ _ _ hv
  · obtain rfl : i = n := by omega
    rw [show Nat.ble (i + 1) i = false from by rw [← Bool.not_eq_true]; exact fun h => by have := Nat.le_of_ble_eq_true h; omega, Nat.sub_self] at hv
    exact h2 j hj _ _ _ hv
theorem app_z {e : TypeId} {K L M n m : Nat} {z : Int} {c d : Nat → Int} {el2 : Nat → Nat → Lf} (hm : m = n + 1) (hK : K ≤ L) (hM : M ≤ L) (hz : z = d n) (hc : ∀ i, i < n → c i = d i) (h0 : el2 0 0 = .v (.bool (decide (z < 0))) := by rfl) (h1 : el2 0 1 = ln M z.natAbs := by rfl) : AO.le (.row e 2 (n + 1) (appEl n (zel K c) el2)) (.row e 2 m (zel L d)) := by
  refine app_el hm (zel_le hK hc) fun j hj B w v hv => ?_
  unfold zel
  rw [← hz]
  match j, hj with
  | 0, _ => rw [h0] at hv; exact hv
  | 1, _ => rw [h1] at hv; exact lr_mono hM _ _ _ hv
theorem ael_le {K L n : Nat} {f : Nat → Bool × List Nat} (hk : K ≤ L) : ∀ i, i < n → ∀ j, j < 2 → ∀ B w v, LfR B w (ael K f i j) v → LfR B w (ael L f i j) v := by
  intro i hi j hj B w v hv
  match j, hj with
  | 0, _ => exact hv
  | 1, _ => exact lr_mono hk _ _ _ hv
theorem app_a {e : TypeId} {K L M n m : Nat} {f : Nat → Bool × List Nat} {el2 : Nat → Nat → Lf} (hm : m = n + 1) (hK : K ≤ L) (hM : M ≤ L) (h0 : el2 0 0 = .v (.bool (f n).1) := by rfl) (h1 : el2 0 1 = lr M (f n).2 := by rfl) : AO.le (.row e 2 (n + 1) (appEl n (ael K f) el2)) (.row e 2 m (ael L f)) := by
  refine app_el hm (ael_le hK) fun j hj B w v hv => ?_
  match j, hj with
  | 0, _ => rw [h0] at hv; exact hv
  | 1, _ => rw [h1] at hv; exact lr_mono hM _ _ _ hv
/-- One or two numbers written out. -/
theorem isp1 {K M : Nat} {z : Int} {el : Nat → Nat → Lf} (hM : M ≤ K) (h0 : el 0 0 = .v (.bool (decide (z < 0))) := by rfl) (h1 : el 0 1 = ln M z.natAbs := by rfl) : IsP (.row 2 1 el) K 1 (fun i => if i = 0 then z else 0) := by
  have h := isp (K := K) (n := 1) (c := fun i => if i = 0 then z else 0) (fun i hi => if_neg (by omega))
  refine ⟨?_, h.2⟩
  obtain ⟨f, h2, h3⟩ := h.1
  refine ⟨f, fun B w v hv => h2 _ _ _ (row_le ?_ _ _ _ hv), h3⟩
  intro i hi j hj B w v hv
  obtain rfl : i = 0 := by omega
  match j, hj with
  | 0, _ => rw [h0] at hv; exact hv
  | 1, _ => rw [h1] at hv; exact lr_mono hM _ _ _ hv
theorem isp2 {K M N : Nat} {z y : Int} {el : Nat → Nat → Lf} (hM : M ≤ K) (hN : N ≤ K) (h0 : el 0 0 = .v (.bool (decide (z < 0))) := by rfl) (h1 : el 0 1 = ln M z.natAbs := by rfl) (h2 : el 1 0 = .v (.bool (decide (y < 0))) := by rfl) (h3 : el 1 1 = ln N y.natAbs := by rfl) : IsP (.row 2 2 el) K 2 (fun i => if i = 0 then z else if i = 1 then y else 0) := by
  have h := isp (K := K) (n := 2) (c := fun i => if i = 0 then z else if i = 1 then y else 0) (fun i hi => by show (if i = 0 then z else if i = 1 then y else 0) = 0; rw [if_neg (by omega), if_neg (by omega)])
  refine ⟨?_, h.2⟩
  obtain ⟨f, h4, h5⟩ := h.1
  refine ⟨f, fun B w v hv => h4 _ _ _ (row_le ?_ _ _ _ hv), h5⟩
  intro i hi j hj B w v hv
  match i, hi, j, hj with
  | 0, _, 0, _ => rw [h0] at hv; exact hv
  | 0, _, 1, _ => rw [h1] at hv; exact lr_mono hM _ _ _ hv
  | 1, _, 0, _ => rw [h2] at hv; exact hv
  | 1, _, 1, _ => rw [h3] at hv; exact lr_mono hN _ _ _ hv

/-! ### Rationals of the plain reckoning -/
def qn (K : Nat) (q : Rat) : List Lf := rn K q.num ++ rn K (q.den : Int)
def IsQ (ls : List Lf) (K : Nat) (q : Rat) : Prop := ∀ B w cs, LsR B w ls cs → LsR B w (qn K q) cs
theorem isq (K : Nat) (q : Rat) : IsQ (qn K q) K q := fun _ _ _ h => h
theorem qn_mono {K L : Nat} {q : Rat} (h : K ≤ L) : ∀ B w cs, LsR B w (qn K q) cs → LsR B w (qn L q) cs
  | B, w, [a, b, c, d], ⟨h1, h2, h3, h4, h5⟩ => ⟨dr_mono h _ _ _ h1, h2, dr_mono h _ _ _ h3, h4, h5⟩
theorem IsQ.mono {ls : List Lf} {K L : Nat} {q : Rat} (h : IsQ ls K q) (hk : K ≤ L) : IsQ ls L q := fun B w cs hc => qn_mono hk _ _ _ (h B w cs hc)
theorem IsQ.eq {ls : List Lf} {K : Nat} {q r : Rat} (h : IsQ ls K q) (e : q = r) : IsQ ls K r := e ▸ h
theorem le_qn {K L : Nat} {z y : Rat} (h : K ≤ L) (e : z = y) : AV.le (.d (.agg (qn K z))) (.d (.agg (qn L y))) := by subst e; exact le_agg (qn_mono h)
theorem leo_qn {t : TypeId} {K L : Nat} {z y : Rat} (h : K ≤ L) (e : z = y) : AO.le (.box t (qn K z)) (.box t (qn L y)) := by subst e; exact leo_box (qn_mono h)
theorem le_qn2 {K L M : Nat} {n d : Int} {q : Rat} (h1 : K ≤ M) (h2 : L ≤ M) (e1 : n = q.num) (e2 : d = q.den) : AV.le (.d (.agg (rn K n ++ rn L d))) (.d (.agg (qn M q))) := by
  subst e1; subst e2
  refine le_agg fun B w cs h => ?_
  match cs, h with
  | [a, b, c, d], ⟨h1', h2', h3', h4', h5'⟩ => exact ⟨dr_mono h1 _ _ _ h1', h2', dr_mono h2 _ _ _ h3', h4', h5'⟩
def qel (K : Nat) (c : Nat → Rat) : Nat → Nat → Lf := fun i j => ((qn K (c i))[j]?).getD (.v undef)
def qrow (K n : Nat) (c : Nat → Rat) : Lf := .row 4 n (qel K c)
theorem qel_le {K L n : Nat} {c d : Nat → Rat} (hk : K ≤ L) (h : ∀ i, i < n → c i = d i) : ∀ i, i < n → ∀ j, j < 4 → ∀ B w v, LfR B w (qel K c i j) v → LfR B w (qel L d i j) v := by
  intro i hi j hj B w v hv
  unfold qel at *
  rw [← h i hi]
  match j, hj with
  | 0, _ => exact dr_mono hk _ _ _ hv
  | 1, _ => exact hv
  | 2, _ => exact dr_mono hk _ _ _ hv
  | 3, _ => exact hv
def IsQP (l : Lf) (K n : Nat) (c : Nat → Rat) : Prop := (∀ B w v, LfR B w l v → LfR B w (qrow K n c) v) ∧ ∀ i, n ≤ i → c i = 0
theorem isqp {K n : Nat} {c : Nat → Rat} (h : ∀ i, n ≤ i → c i = 0) : IsQP (qrow K n c) K n c := ⟨fun _ _ _ h => h, h⟩
theorem isqp_nil : IsQP (.v (.slice none 0 0)) 0 0 (fun _ => 0) := by
  refine ⟨?_, fun _ _ => rfl⟩
  rintro B w c ⟨rfl, _⟩
  exact ⟨none, 0, rfl, Nat.le_refl _, fun _ => rfl, fun i hi => absurd hi (Nat.not_lt_zero _)⟩
theorem IsQP.mono {l : Lf} {K L n : Nat} {c : Nat → Rat} (h : IsQP l K n c) (hk : K ≤ L) : IsQP l L n c := ⟨fun B w v hv => row_le (qel_le hk fun _ _ => rfl) _ _ _ (h.1 B w v hv), h.2⟩
theorem IsQP.eq {l : Lf} {K n m : Nat} {c d : Nat → Rat} (h : IsQP l K n c) (e : n = m) (e' : ∀ i, c i = d i) : IsQP l K m d := by
  obtain rfl : c = d := funext e'
  exact e ▸ h
theorem le_qrow {K L n m : Nat} {c d : Nat → Rat} (hk : K ≤ L) (e : n = m) (h : ∀ i, i < n → c i = d i) : AV.le (.d (.one (qrow K n c))) (.d (.one (qrow L m d))) := by subst e; exact le_one (row_le (qel_le hk h))
theorem leo_qrow {e : TypeId} {K L n : Nat} {c d : Nat → Rat} (hk : K ≤ L) (h : ∀ i, i < n → c i = d i) : AO.le (.row e 4 n (qel K c)) (.row e 4 n (qel L d)) := leo_row (qel_le hk h)
theorem qn_el {K M : Nat} {q : Rat} {l : Nat → Lf} (hM : M ≤ K) (h0 : l 0 = dn M q.num.natAbs) (h1 : l 1 = .v (.bool (decide (q.num < 0)))) (h2 : l 2 = dn M (q.den : Int).natAbs) (h3 : l 3 = .v (.bool (decide ((q.den : Int) < 0)))) : ∀ j, j < 4 → ∀ B w v, LfR B w (l j) v → LfR B w (((qn K q)[j]?).getD (.v undef)) v := by
  intro j hj B w v hv
  match j, hj with
  | 0, _ => rw [h0] at hv; exact dr_mono hM _ _ _ hv
  | 1, _ => rw [h1] at hv; exact hv
  | 2, _ => rw [h2] at hv; exact dr_mono hM _ _ _ hv
  | 3, _ => rw [h3] at hv; exact hv
theorem app_q {e : TypeId} {K L M n m : Nat} {q : Rat} {c d : Nat → Rat} {el2 : Nat → Nat → Lf} (hm : m = n + 1) (hK : K ≤ L) (hM : M ≤ L) (hz : q = d n) (hc : ∀ i, i < n → c i = d i) (h0 : el2 0 0 = dn M q.num.natAbs := by rfl) (h1 : el2 0 1 = .v (.bool (decide (q.num < 0))) := by rfl) (h2 : el2 0 2 = dn M (q.den : Int).natAbs := by rfl) (h3 : el2 0 3 = .v (.bool (decide ((q.den : Int) < 0))) := by rfl) : AO.le (.row e 4 (n + 1) (appEl n (qel K c) el2)) (.row e 4 m (qel L d)) := by
  refine app_el hm (qel_le hK hc) fun j hj B w v hv => ?_
  unfold qel
  rw [← hz]
  exact qn_el hM h0 h1 h2 h3 j hj B w v hv
theorem isqp1 {K M : Nat} {q : Rat} {el : Nat → Nat → Lf} (hM : M ≤ K) (h0 : el 0 0 = dn M q.num.natAbs := by rfl) (h1 : el 0 1 = .v (.bool (decide (q.num < 0))) := by rfl) (h2 : el 0 2 = dn M (q.den : Int).natAbs := by rfl) (h3 : el 0 3 = .v (.bool (decide ((q.den : Int) < 0))) := by rfl) : IsQP (.row 4 1 el) K 1 (fun i => if i = 0 then q else 0) := by
  refine ⟨row_le fun i hi j hj B w v hv => ?_, fun i hi => if_neg (by omega)⟩
  obtain rfl : i = 0 := by omega
  exact qn_el hM h0 h1 h2 h3 j hj B w v hv
theorem isqp2 {K M N : Nat} {q r : Rat} {el : Nat → Nat → Lf} (hM : M ≤ K) (hN : N ≤ K) (h0 : el 0 0 = dn M q.num.natAbs := by rfl) (h1 : el 0 1 = .v (.bool (decide (q.num < 0))) := by rfl) (h2 : el 0 2 = dn M (q.den : Int).natAbs := by rfl) (h3 : el 0 3 = .v (.bool (decide ((q.den : Int) < 0))) := by rfl)
    (k0 : el 1 0 = dn N r.num.natAbs := by rfl) (k1 : el 1 1 = .v (.bool (decide (r.num < 0))) := by rfl) (k2 : el 1 2 = dn N (r.den : Int).natAbs := by rfl) (k3 : el 1 3 = .v (.bool (decide ((r.den : Int) < 0))) := by rfl) : IsQP (.row 4 2 el) K 2 (fun i => if i = 0 then q else if i = 1 then r else 0) := by
  refine ⟨row_le fun i hi j hj B w v hv => ?_, fun i hi => by show (if i = 0 then q else if i = 1 then r else 0) = 0; rw [if_neg (by omega), if_neg (by omega)]⟩
  match i, hi with
  | 0, _ => exact qn_el hM h0 h1 h2 h3 j hj B w v hv
  | 1, _ => exact qn_el hN k0 k1 k2 k3 j hj B w v hv

/-! ### Rows cut: noughts on top are taken away -/
section
variable {α : Type} [DecidableEq α] [OfNat α 0]
def dg (c : Nat → α) : Nat → Nat
  | 0 => 0
  | n + 1 => if c n = 0 then dg c n else n + 1
theorem dg_le (c : Nat → α) : ∀ n, dg c n ≤ n
  | 0 => Nat.le_refl _
  | n + 1 => by unfold dg; split; exact Nat.le_succ_of_le (dg_le c n); exact Nat.le_refl _
theorem dg_z {c : Nat → α} : ∀ {n : Nat}, (∀ i, n ≤ i → c i = 0) → ∀ i, dg c n ≤ i → c i = 0
  | 0, h, i, hi => h i (Nat.zero_le _)
  | n + 1, h, i, hi => by
    unfold dg at hi
    split at hi
    · rename_i h0
      exact dg_z (n := n) (fun k hk => by rcases Nat.eq_or_lt_of_le hk with e | e; exact e ▸ h0; exact h k e) i hi
    · exact h i hi
theorem dg_ne {c : Nat → α} : ∀ {n : Nat}, dg c n ≠ 0 → c (dg c n - 1) ≠ 0
  | 0, h => absurd rfl h
  | n + 1, h => by
    unfold dg at h ⊢
    split
    · rename_i h0; rw [if_pos h0] at h; exact dg_ne h
    · rename_i h0; exact h0
theorem dg_step {c : Nat → α} {n : Nat} (h : c n = 0) : dg c (n + 1) = dg c n := by
  show (if c n = 0 then dg c n else n + 1) = _
  rw [if_pos h]
theorem dg_stop {c : Nat → α} {n : Nat} (h : n = 0 ∨ c (n - 1) ≠ 0) : dg c n = n := by
  cases n with
  | zero => rfl
  | succ n =>
    rcases h with h | h
    · exact absurd h (Nat.succ_ne_zero _)
    · show (if c n = 0 then dg c n else n + 1) = _
      rw [if_neg (show ¬ c n = 0 from h)]
omit [DecidableEq α] in
theorem dg_uniq {c : Nat → α} {k m : Nat} (h1 : k = 0 ∨ c (k - 1) ≠ 0) (h2 : ∀ i, k ≤ i → c i = 0) (h3 : m = 0 ∨ c (m - 1) ≠ 0) (h4 : ∀ i, m ≤ i → c i = 0) : k = m := by
  rcases Nat.lt_trichotomy k m with h | h | h
  · rcases h3 with h3 | h3
    · omega
    · exact absurd (h2 (m - 1) (by omega)) h3
  · exact h
  · rcases h1 with h1 | h1
    · omega
    · exact absurd (h4 (k - 1) (by omega)) h1
theorem dg_or {c : Nat → α} {n : Nat} : dg c n = 0 ∨ c (dg c n - 1) ≠ 0 := by
  rcases Nat.eq_zero_or_pos (dg c n) with h | h
  · exact Or.inl h
  · exact Or.inr (dg_ne (by omega))
theorem dg_eq {c : Nat → α} {n m : Nat} (h : ∀ i, n ≤ i → c i = 0) (k : ∀ i, m ≤ i → c i = 0) : dg c n = dg c m := dg_uniq dg_or (dg_z h) dg_or (dg_z k)
end
theorem dg_cast {c : Nat → Int} : ∀ n, dg (fun i => ((c i : Int) : Rat)) n = dg c n
  | 0 => rfl
  | n + 1 => by
    unfold dg
    rw [dg_cast n]
    by_cases h : c n = 0
    · rw [if_pos h, if_pos (by rw [h]; rfl)]
    · rw [if_neg h, if_neg (fun e => h (by exact_mod_cast e))]

/-! ### Sums, products -/
section
variable {α : Type} [Add α] [Mul α] [OfNat α 0]
/-- The product's coefficients: of the first m of the left one. -/
def cv (a b : Nat → α) : Nat → Nat → α
  | 0, _ => 0
  | m + 1, j => cv a b m j + (if m ≤ j then a m * b (j - m) else 0)
def conv (a b : Nat → α) (j : Nat) : α := cv a b (j + 1) j
end

end Go.Proofs.Ytpnoklbijfmoaaa

/-
  THE TABLE OF TYPES: printed by a program of this work, and held against the program.
-/
set_option linter.unusedVariables false
namespace Go.Proofs.Ytpnoklbijfmoaaa
open Go.RowKit

def TL : List (Nat × TI) := [
  (3, ⟨1, false, [.int .i64 0], [], none, 8, some .i64, false⟩),
  (4, ⟨1, false, [.bool false], [], none, 1, none, true⟩),
  (5, ⟨1, false, [.int .u8 0], [], none, 1, some .u8, false⟩),
  (9, ⟨1, false, [.string ⟨#[]⟩], [], none, 16, none, false⟩),
  (23, ⟨1, false, [.slice none 0 0], [], some 24, 24, none, false⟩),
  (24, ⟨1, false, [.int .u32 0], [], none, 4, some .u32, false⟩),
  (25, ⟨1, false, [.slice none 0 0], [], some 28, 24, none, false⟩),
  (26, ⟨1, false, [.slice none 0 0], [], some 28, 24, none, false⟩),
  (28, ⟨2, true, [.bool false, .slice none 0 0], [(0, 4), (1, 23)], none, 32, none, false⟩),
  (30, ⟨4, true, [.slice none 0 0, .slice none 0 0, .bool false, .slice none 0 0], [(0, 26), (1, 26), (2, 28)], none, 80, none, false⟩),
  (32, ⟨1, false, [.pointer none], [], none, 8, none, false⟩),
  (33, ⟨1, false, [.int .i64 0], [], none, 8, some .i64, false⟩),
  (38, ⟨5, true, [.slice none 0 0, .slice none 0 0, .bool false, .slice none 0 0, .int .i64 0], [(0, 30), (4, 3)], none, 88, none, false⟩),
  (43, ⟨1, false, [.slice none 0 0], [], some 38, 24, none, false⟩),
  (45, ⟨3, true, [.int .i64 0, .int .i64 0, .slice none 0 0], [(0, 3), (1, 3), (2, 43)], none, 40, none, false⟩),
  (53, ⟨1, false, [.slice none 0 0], [], some 3, 24, none, false⟩),
  (64, ⟨1, false, [.int .u64 0], [], none, 8, some .u64, false⟩),
  (67, ⟨1, false, [.int .u64 0], [], none, 8, some .u64, false⟩),
  (68, ⟨3, true, [.slice none 0 0, .slice none 0 0, .slice none 0 0], [], none, 72, none, false⟩)]
def TT : TypeId → Option TI := lk TL

theorem tt3 : tiOf Try.prog 3 = some ⟨1, false, [.int .i64 0], [], none, 8, some .i64, false⟩ := by kernel_rfl
theorem tt4 : tiOf Try.prog 4 = some ⟨1, false, [.bool false], [], none, 1, none, true⟩ := by kernel_rfl
theorem tt5 : tiOf Try.prog 5 = some ⟨1, false, [.int .u8 0], [], none, 1, some .u8, false⟩ := by kernel_rfl
theorem tt9 : tiOf Try.prog 9 = some ⟨1, false, [.string ⟨#[]⟩], [], none, 16, none, false⟩ := by kernel_rfl
theorem tt23 : tiOf Try.prog 23 = some ⟨1, false, [.slice none 0 0], [], some 24, 24, none, false⟩ := by kernel_rfl
theorem tt24 : tiOf Try.prog 24 = some ⟨1, false, [.int .u32 0], [], none, 4, some .u32, false⟩ := by kernel_rfl
theorem tt25 : tiOf Try.prog 25 = some ⟨1, false, [.slice none 0 0], [], some 28, 24, none, false⟩ := by kernel_rfl
theorem tt26 : tiOf Try.prog 26 = some ⟨1, false, [.slice none 0 0], [], some 28, 24, none, false⟩ := by kernel_rfl
theorem tt28 : tiOf Try.prog 28 = some ⟨2, true, [.bool false, .slice none 0 0], [(0, 4), (1, 23)], none, 32, none, false⟩ := by kernel_rfl
theorem tt30 : tiOf Try.prog 30 = some ⟨4, true, [.slice none 0 0, .slice none 0 0, .bool false, .slice none 0 0], [(0, 26), (1, 26), (2, 28)], none, 80, none, false⟩ := by kernel_rfl
theorem tt32 : tiOf Try.prog 32 = some ⟨1, false, [.pointer none], [], none, 8, none, false⟩ := by kernel_rfl
theorem tt33 : tiOf Try.prog 33 = some ⟨1, false, [.int .i64 0], [], none, 8, some .i64, false⟩ := by kernel_rfl
theorem tt38 : tiOf Try.prog 38 = some ⟨5, true, [.slice none 0 0, .slice none 0 0, .bool false, .slice none 0 0, .int .i64 0], [(0, 30), (4, 3)], none, 88, none, false⟩ := by kernel_rfl
theorem tt43 : tiOf Try.prog 43 = some ⟨1, false, [.slice none 0 0], [], some 38, 24, none, false⟩ := by kernel_rfl
theorem tt45 : tiOf Try.prog 45 = some ⟨3, true, [.int .i64 0, .int .i64 0, .slice none 0 0], [(0, 3), (1, 3), (2, 43)], none, 40, none, false⟩ := by kernel_rfl
theorem tt53 : tiOf Try.prog 53 = some ⟨1, false, [.slice none 0 0], [], some 3, 24, none, false⟩ := by kernel_rfl
theorem tt64 : tiOf Try.prog 64 = some ⟨1, false, [.int .u64 0], [], none, 8, some .u64, false⟩ := by kernel_rfl
theorem tt67 : tiOf Try.prog 67 = some ⟨1, false, [.int .u64 0], [], none, 8, some .u64, false⟩ := by kernel_rfl
theorem tt68 : tiOf Try.prog 68 = some ⟨3, true, [.slice none 0 0, .slice none 0 0, .slice none 0 0], [], none, 72, none, false⟩ := by kernel_rfl
theorem hTT : TOk Try.prog TT := by
  intro t ti h
  have hm := lk_mem h
  unfold TL at hm
  simp only [List.mem_cons, List.not_mem_nil, or_false, Prod.mk.injEq] at hm
  rcases hm with ⟨rfl, rfl⟩ | ⟨rfl, rfl⟩ | ⟨rfl, rfl⟩ | ⟨rfl, rfl⟩ | ⟨rfl, rfl⟩ | ⟨rfl, rfl⟩ | ⟨rfl, rfl⟩ | ⟨rfl, rfl⟩ | ⟨rfl, rfl⟩ | ⟨rfl, rfl⟩ | ⟨rfl, rfl⟩ | ⟨rfl, rfl⟩ | ⟨rfl, rfl⟩ | ⟨rfl, rfl⟩ | ⟨rfl, rfl⟩ | ⟨rfl, rfl⟩ | ⟨rfl, rfl⟩ | ⟨rfl, rfl⟩ | ⟨rfl, rfl⟩
  · exact tt3
  · exact tt4
  · exact tt5
  · exact tt9
  · exact tt23
  · exact tt24
  · exact tt25
  · exact tt26
  · exact tt28
  · exact tt30
  · exact tt32
  · exact tt33
  · exact tt38
  · exact tt43
  · exact tt45
  · exact tt53
  · exact tt64
  · exact tt67
  · exact tt68

end Go.Proofs.Ytpnoklbijfmoaaa


/-
  WALKS: the document's answers over digits of four decimals: cut, mulAdd, FromN. What they return, as numbers; nothing that was there turns.
-/
set_option linter.unusedVariables false
set_option linter.unusedSimpArgs false
namespace Go.Proofs.Ytpnoklbijfmoaaa
open Go.RowKit

theorem Try.infoInt : (Try.prog.info? 3).map (fun i => (i.zero, i.size, i.bytes)) = some (some (.int .i64 0), 1, 8) := by kernel_rfl
theorem Try.sizeInt : (Try.prog.info? 3).map (·.size) = some 1 := by kernel_rfl

end Go.Proofs.Ytpnoklbijfmoaaa

/-
  WALKS: limb.cut, limb.Norm, limb.Cmp: what they return, as numbers; nothing that was there turns. Conditions: the lengths are no more than memory bears.
-/
set_option linter.unusedVariables false
set_option linter.unusedSimpArgs false
namespace Go.Proofs.Ytpnoklbijfmoaaa
open Go.RowKit

theorem Try.infoU32 : (Try.prog.info? 24).map (fun i => (i.zero, i.size, i.bytes)) = some (some (.int .u32 0), 1, 4) := by kernel_rfl
theorem Try.sizeU32 : (Try.prog.info? 24).map (·.size) = some 1 := by kernel_rfl

set_option maxHeartbeats 400000 in
theorem cut_walk (ao : Option Addr) (n c : Nat) (xs : List Nat) (w : World) (hm : n ≤ 9223372036854775807) (hr : Rw .u32 B32 w ao n c xs) :
    Calls Try.prog 34 #[.slice ao n c] w fun e w' => e = .returned (.slice ao (cutN xs n) c) ∧ w' = w := by
  have hlc := hr.le
  go_enter Try.func34, Try.ntmps34
  go_wp2
  go_loop [3] (fun n' => ∃ k : Nat, k ≤ n ∧ n' = .int .i64 k ∧ cutN xs k = cutN xs n) (fun n' => (intOf n').toNat)
  case atStart => exact ⟨n, Nat.le_refl _, rfl, rfl⟩
  case round =>
    obtain ⟨k, hk, rfl, hcut⟩ := hrel
    have Hcut := hid hcut; clear hcut
    by_cases h0 : k = 0
    · subst h0
      go_wp2
      go_ret
      exact ⟨by rw [← Hcut]; rfl, rfl⟩
    · obtain ⟨j, rfl⟩ : ∃ j, k = j + 1 := ⟨k - 1, by omega⟩
      obtain ⟨b, off, x, rfl, hx, hxB, hcj⟩ := hr.at (show j < n by omega)
      have Hx := hid hx; clear hx hr
      by_cases hz : x = 0
      · subst hz
        go_wp2
        go_round
        case rel => exact ⟨j, by omega, rfl, by rw [← Hcut]; simp [cutN, Hx.out]⟩
        case measure => simp [intOf]
      · have hz' : ((x : Int) == 0) = false := by simpa using hz
        go_wp2
        go_ret
        exact ⟨by rw [← Hcut]; simp [cutN, Hx.out, hz], rfl⟩

/-- cut: the same memory, as far as the row of the number goes. -/
theorem cut_any (ao : Option Addr) (n c : Nat) (xs : List Nat) (w : World) (hm : n ≤ 9223372036854775807) (hr : Rw .u32 B32 w ao n c xs) :
    Calls Try.prog 34 #[.slice ao n c] w fun e w' => ∃ m, e = .returned (.slice ao m c) ∧ m ≤ n ∧ Rw .u32 B32 w ao m c (limbs (val xs)) ∧ w = w' := by
  refine (cut_walk ao n c xs w hm hr).mono fun e w' ⟨he, hw⟩ => ?_
  have hcut := cut_limbs xs hr.lt
  have hr2 := hr.take (cutN_le xs n)
  have hl := hr.len
  subst hl
  rw [hcut] at hr2
  exact ⟨_, he, cutN_le _ _, hr2, hw.symm⟩

set_option maxHeartbeats 400000 in
/-- Norm: the row of the number, in memory of its own. -/
theorem norm_any (ao : Option Addr) (n c : Nat) (xs : List Nat) (w : World) (hm : n ≤ 1073741824) (hr : Rw .u32 B32 w ao n c xs) :
    Calls Try.prog 31 #[.slice ao n c] w fun e w' => ∃ ao' m c', e = .returned (.slice ao' m c') ∧ m ≤ n ∧ Rw .u32 B32 w' ao' m c' (limbs (val xs)) ∧ Own w.heap.size w' ao' c' ∧ Below w.heap.size w w' := by
  go_enter Try.func31, Try.ntmps31
  go_wp2_with fail
  refine (cut_any ao n c xs _ (by omega) hr).mono ?_
  rintro e w' ⟨m, rfl, hmn, hr2, rfl⟩
  have hl2 := hr2.len
  go_wp2_with (at_builtin; refine Hid.out ?_)
  refine hid ?_
  refine wpList_app _ rfl _ _ 23 rfl w.heap.size 24 (.int .u32 0) 1 4 Try.underlying23 Try.infoU32 rfl (by decide) (.slice none 0 0) 0 [] rfl (World.ownsRow_nil _ _ _ _) ao m c (ints .u32 (limbs (val xs))) rfl (by rw [ints_length]; omega) hr2.2.2.1 hr2.le hr2.cells (ints_one _ _) (by unfold maxLen; omega) (by omega) (Nat.le_refl _) fun v' w1 hown _ hb => ?_
  rw [Nat.zero_add, List.nil_append] at hown
  obtain ⟨ao', c', rfl, h1, h2⟩ := own_of_ownsRow (k := .u32) (B := B32) (by rw [hl2]; exact hown) hr2.lt
  rw [hl2] at h1
  go_wp2
  go_ret
  exact ⟨_, _, _, rfl, hmn, h1, h2, hb⟩

/-- -1, 0, 1: which one is greater. -/
def cmpZ (a b : Int) : Int := if a < b then -1 else if a = b then 0 else 1

theorem cmp_digit {B : Nat} {xs ys : List Nat} (hx : ∀ x ∈ xs, x < B) (hl : xs.length = ys.length) {k : Nat} (hk : k < xs.length) (hd : xs.drop (k + 1) = ys.drop (k + 1))
    (hlt : xs[k] < ys[k]'(by omega)) : valB B xs < valB B ys := by
  rw [valB_drop B xs (k + 1) (by omega), valB_drop B ys (k + 1) (by omega), hd, valB_take_succ B xs k hk, valB_take_succ B ys k (by omega)]
  have h1 : valB B (xs.take k) < B ^ k := by
    have := valB_lt (xs := xs.take k) (fun x h => hx x (List.mem_of_mem_take h))
    rwa [List.length_take, Nat.min_eq_left (by omega)] at this
  have h2 : B ^ k * (xs[k] + 1) ≤ B ^ k * (ys[k]'(by omega)) := Nat.mul_le_mul_left _ hlt
  rw [Nat.mul_add] at h2
  omega

set_option maxHeartbeats 1000000 in
/-- Cmp: -1, 0, 1, as the numbers are. -/
theorem cmp_any (ao bo : Option Addr) (n c m d : Nat) (xs ys : List Nat) (w : World) (hn : n ≤ 1073741824) (hm : m ≤ 1073741824) (hr : Rw .u32 B32 w ao n c xs) (hs : Rw .u32 B32 w bo m d ys) :
    Calls Try.prog 44 #[.slice ao n c, .slice bo m d] w fun e w' => e = .returned (.int .i64 (cmpZ (val xs) (val ys))) ∧ Below w.heap.size w w' := by
  go_enter Try.func44, Try.ntmps44
  go_wp2_with fail
  refine (cut_any ao n c xs _ (by omega) hr).mono ?_
  rintro e w' ⟨n1, rfl, hn1, hr1, rfl⟩
  go_wp2_with fail
  refine (cut_any bo m d ys _ (by omega) hs).mono ?_
  rintro e w' ⟨m1, rfl, hm1, hs1, rfl⟩
  have hl1 := hr1.len
  have hl2 := hs1.len
  generalize hA : limbs (val xs) = A at *
  generalize hB : limbs (val ys) = B at *
  have HA := hid hA; have HB := hid hB; have HL1 := hid hl1; have HL2 := hid hl2
  clear hA hB hl1 hl2
  have hvx : val xs = val A := by rw [← HA.out, val_limbs]
  have hvy : val ys = val B := by rw [← HB.out, val_limbs]
  have HVX := hid hvx; have HVY := hid hvy; clear hvx hvy hr hs
  by_cases hne : n1 = m1
  · subst hne
    go_wp2_with fail
    go_loopw [5] (fun i wr => ∃ k : Nat, k ≤ n1 ∧ i = .int .i64 ((k : Int) - 1) ∧ A.drop k = B.drop k ∧ Below w.heap.size w wr) (fun i _ => (intOf i + 1).toNat)
    case atStart => exact ⟨n1, Nat.le_refl _, rfl, by rw [List.drop_of_length_le (Nat.le_of_eq HL1.out), List.drop_of_length_le (Nat.le_of_eq HL2.out)], Below.refl _ _⟩
    case round =>
      obtain ⟨k, hk, rfl, hd, hb⟩ := hrel
      have Hd := hid hd; clear hd
      by_cases h0 : k = 0
      · subst h0
        go_wp2
        go_ret
        exact ⟨ret_int (by have := Hd.out; simp only [List.drop_zero] at this; rw [HVX.out, HVY.out, this]; simp [cmpZ]), hb⟩
      · obtain ⟨j, rfl⟩ : ∃ j, k = j + 1 := ⟨k - 1, by omega⟩
        obtain ⟨b1, off1, x, rfl, hx, hxB, hcx⟩ := (hr1.ext hb).at (show j < n1 by omega)
        obtain ⟨b2, off2, y, rfl, hy, hyB, hcy⟩ := (hs1.ext hb).at (show j < n1 by omega)
        have Hx := hid hx; have Hy := hid hy; clear hx hy
        by_cases hxy : x < y
        · go_wp2
          go_quiet (fail)
          go_wp2
          go_ret
          refine ⟨ret_int ?_, ext_drewN hb _⟩
          have hA : A.length = B.length := by rw [HL1.out, HL2.out]
          have := cmp_digit (B := B32) hr1.lt hA (k := j) (by rw [HL1.out]; omega) Hd.out (by
            obtain ⟨_, e1⟩ := List.getElem?_eq_some_iff.1 Hx.out
            obtain ⟨_, e2⟩ := List.getElem?_eq_some_iff.1 Hy.out
            rw [e1, e2]; exact hxy)
          rw [HVX.out, HVY.out]; unfold val; rw [cmpZ, if_pos (by omega)]
        · by_cases hyx : y < x
          · have e1 : decide (x < y) = false := by simpa using hxy
            go_wp2
            go_quiet (fail)
            go_wp2
            go_quiet (fail)
            go_wp2
            go_ret
            refine ⟨ret_int ?_, ext_drewN (ext_drewN hb _) _⟩
            have hA : B.length = A.length := by rw [HL1.out, HL2.out]
            have := cmp_digit (B := B32) hs1.lt hA (k := j) (by rw [HL2.out]; omega) Hd.out.symm (by
              obtain ⟨_, e1⟩ := List.getElem?_eq_some_iff.1 Hx.out
              obtain ⟨_, e2⟩ := List.getElem?_eq_some_iff.1 Hy.out
              rw [e1, e2]; exact hyx)
            rw [HVX.out, HVY.out]; unfold val; rw [cmpZ, if_neg (by omega), if_neg (by omega)]
          · have e1 : decide (x < y) = false := by simpa using hxy
            have e2 : decide (y < x) = false := by simpa using hyx
            obtain rfl : x = y := by omega
            go_wp2
            go_quiet (fail)
            go_wp2
            go_quiet (fail)
            go_wp2
            go_roundw
            case rel =>
              refine ⟨j, by omega, by go_num, ?_, ext_drewN hb _⟩
              obtain ⟨h1, e1⟩ := List.getElem?_eq_some_iff.1 Hx.out
              obtain ⟨h2, e2⟩ := List.getElem?_eq_some_iff.1 Hy.out
              rw [List.drop_eq_getElem_cons h1, List.drop_eq_getElem_cons h2, e1, e2, Hd.out]
            case measure => simp [intOf]
  · by_cases hlt : n1 < m1
    · go_wp2
      go_ret
      exact ⟨ret_int (by have := limbs_shorter (m := val xs) (n := val ys) (by rw [HA.out, HB.out, HL1.out, HL2.out]; exact hlt); rw [cmpZ, if_pos (by omega)]), Below.refl _ _⟩
    · go_wp2
      go_ret
      exact ⟨ret_int (by have := limbs_shorter (m := val ys) (n := val xs) (by rw [HA.out, HB.out, HL1.out, HL2.out]; omega); rw [cmpZ, if_neg (by omega), if_neg (by omega)]), Below.refl _ _⟩

end Go.Proofs.Ytpnoklbijfmoaaa


/-
  WALKS: the document's answers: small, ToN, CmpN, SubN. What they return, as numbers; nothing that was there turns.
-/
set_option linter.unusedVariables false
set_option linter.unusedSimpArgs false
namespace Go.Proofs.Ytpnoklbijfmoaaa
open Go.RowKit

end Go.Proofs.Ytpnoklbijfmoaaa


/-
  WALKS: the document's division: DivN. What it returns, as numbers; nothing that was there turns.
-/
set_option linter.unusedVariables false
set_option linter.unusedSimpArgs false
namespace Go.Proofs.Ytpnoklbijfmoaaa
open Go.RowKit

theorem lit_own (w : World) (base : Nat) (k : IntKind) (x : Nat) (t : TypeId) (hb : base ≤ w.heap.size) :
    (w.alloc (.cells #[.int k (x : Int)] t)).ownsRow base t 1 (.slice (some ⟨w.heap.size, 0, none⟩) 1 1) 1 (ints k [x]) :=
  ⟨rfl, .inr ⟨w.heap.size, 1, _, rfl, hb, heap_alloc_new w _, Nat.le_refl _, by decide, rfl, rfl⟩⟩

theorem cmpZ_le {a b : Int} : cmpZ a b ≤ 0 ↔ a ≤ b := by
  unfold cmpZ
  split
  · omega
  · split <;> omega

end Go.Proofs.Ytpnoklbijfmoaaa


/-
  WALKS: the plain reckoning: AddN, PowN.
-/
set_option linter.unusedVariables false
set_option linter.unusedSimpArgs false
namespace Go.Proofs.Ytpnoklbijfmoaaa
open Go.RowKit

theorem addN_step {B k c x y P Q P' Q' : Nat} {os : List Nat} (hl : os.length = k) (hv : valB B os + B ^ k * c = P + Q) (hx : P' = P + B ^ k * x) (hy : Q' = Q + B ^ k * y) :
    valB B (os ++ [(c + x + y) % B]) + B ^ (k + 1) * ((c + x + y) / B) = P' + Q' := by
  have h2 := pow_step B k (c + x + y)
  rw [valB_snoc, hl, hx, hy]
  rw [Nat.mul_add, Nat.mul_add] at h2
  omega

/-- Digits as many as the number's own are the number's own. -/
theorem digs4_full {os : List Nat} {V : Nat} (h : ∀ x ∈ os, x < B4) (hv : valB B4 os = V) (hl : os.length ≤ (digs4 V).length) : os = digs4 V := by
  have h1 := cut_digs4 os h
  have h2 : cutN os os.length = (digs4 (val4 os)).length := cutN_length B4_two os h
  have h3 : val4 os = V := hv
  rw [h3] at h1 h2
  rw [List.take_of_length_le (by rw [h2]; exact hl)] at h1
  exact h1

theorem digs4_long {n k : Nat} (h : B4 ^ k ≤ n) : k + 1 ≤ (digs4 n).length := digs_length_ge B4_two h

end Go.Proofs.Ytpnoklbijfmoaaa

