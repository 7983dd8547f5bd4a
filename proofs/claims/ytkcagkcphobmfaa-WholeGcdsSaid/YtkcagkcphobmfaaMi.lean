/-
  THE ABSTRACT MACHINE, 9: A REGION THAT DRAWS ITS ORDER, by what is said of the operations that are done. No condition; nothing of the program.
-/
import Derived.Test.YtkcagkcphobmfaaMh
import Derived.StillTail
set_option linter.unusedVariables false
set_option linter.unusedSimpArgs false
namespace Go.Proofs.Ytkcagkcphobmfaa
open Go.RowKit

namespace Am
def waitsOn (o : Oper) (j : Nat) : Bool := o.after.toList.any fun e => Region.binds .any e && e.on == j

def valOf (o : Oper) (a : Act) : Value := match o.dst with | some d => (a.tmps[d]?).getD undef | none => undef

/-- As the guard says. -/
def IfW (b : Bool) (p q : Prop) : Prop := (b = true → p) ∧ (b = false → q)
theorem ifW_pos {b : Bool} {p q : Prop} (h : b = true) (hp : p) : IfW b p q := ⟨fun _ => hp, fun h' => absurd (h.symm.trans h') Bool.noConfusion⟩
theorem ifW_neg {b : Bool} {p q : Prop} (h : b = false) (hq : q) : IfW b p q := ⟨fun h' => absurd (h.symm.trans h') Bool.noConfusion, fun _ => hq⟩

def putsR : List Oper → Nat → Act → (Nat → Value) → Act
  | [], _, a, _ => a
  | o :: l, k, a, vs => putsR l (k + 1) (a.put o.dst (vs k)) vs

theorem putsR_snoc : ∀ (l : List Oper) (k : Nat) (a : Act) (vs : Nat → Value) (o : Oper), putsR (l ++ [o]) k a vs = (putsR l k a vs).put o.dst (vs (k + l.length))
  | [], k, a, vs, o => by simp [putsR]
  | x :: l, k, a, vs, o => by
    show putsR (l ++ [o]) (k + 1) (a.put x.dst (vs k)) vs = (putsR l (k + 1) (a.put x.dst (vs k)) vs).put o.dst (vs (k + (l.length + 1)))
    rw [putsR_snoc l (k + 1) _ vs o, show k + 1 + l.length = k + (l.length + 1) by omega]

/-- The frame: what the operations of D have written, all else as it was. -/
structure InvA (ops : Array Oper) (n : Nat) (a0 : Act) (D : Nat → Prop) (vs : Nat → Value) (a : Act) : Prop where
  size : a.tmps.size = a0.tmps.size
  defs : a.defers = a0.defers
  wr : ∀ k o d, k < n → ops[k]? = some o → D k → o.dst = some d → a.tmps[d]? = some (vs k)
  no : ∀ t, (∀ k o, k < n → ops[k]? = some o → D k → o.dst ≠ some t) → a.tmps[t]? = a0.tmps[t]?

/-- The operations' own destinations: within the frame, no two alike; what is looked at is waited for. -/
def regB (ops : Array Oper) (n N : Nat) : Bool :=
  (List.range n).all fun i => match ops[i]? with
    | none => false
    | some oi => (match oi.dst with | some d => decide (d < N) | none => false) &&
      oi.after.all (fun e => !Region.binds .any e || decide (e.on < i)) &&
      (List.range n).all fun k => match ops[k]? with
        | none => false
        | some ok => k == i || (match ok.dst with
          | some d => (!(oi.looksAt ops).contains d || (decide (k < i) && waitsOn oi k) || (decide (i < k) && waitsOn ok i)) && oi.dst != some d
          | none => false)

structure RegOk (ops : Array Oper) (n N : Nat) : Prop where
  dst : ∀ i o, i < n → ops[i]? = some o → ∃ d, o.dst = some d ∧ d < N
  back : ∀ i o e, i < n → ops[i]? = some o → e ∈ o.after → Region.binds .any e = true → e.on < i
  look : ∀ i k oi ok d, i < n → k < n → ops[i]? = some oi → ops[k]? = some ok → k ≠ i → ok.dst = some d → d ∈ oi.looksAt ops → (k < i ∧ waitsOn oi k = true) ∨ (i < k ∧ waitsOn ok i = true)
  one : ∀ i k oi ok d, i < n → k < n → ops[i]? = some oi → ops[k]? = some ok → k ≠ i → ok.dst = some d → oi.dst ≠ some d

theorem regB_ok {ops : Array Oper} {n N : Nat} (h : regB ops n N = true) : RegOk ops n N := by
  have key : ∀ i o, i < n → ops[i]? = some o → (∃ d, o.dst = some d ∧ d < N) ∧ (∀ e ∈ o.after, Region.binds .any e = true → e.on < i) ∧
      ∀ k ok d, k < n → ops[k]? = some ok → k ≠ i → ok.dst = some d → (d ∈ o.looksAt ops → (k < i ∧ waitsOn o k = true) ∨ (i < k ∧ waitsOn ok i = true)) ∧ o.dst ≠ some d := by
    intro i o hi ho
    have h1 := List.all_eq_true.1 h i (List.mem_range.2 hi)
    rw [ho] at h1
    simp only [Bool.and_eq_true] at h1
    obtain ⟨⟨h2, h3⟩, h4⟩ := h1
    refine ⟨?_, ?_, ?_⟩
    · cases hd : o.dst with
      | none => rw [hd] at h2; cases h2
      | some d => rw [hd] at h2; exact ⟨d, rfl, by simpa using h2⟩
    · intro e he hb
      have := Array.all_eq_true_iff_forall_mem.1 h3 e he
      simpa [hb] using this
    · intro k ok d hk hok hne hd
      have h5 := List.all_eq_true.1 h4 k (List.mem_range.2 hk)
      rw [hok] at h5
      simp only [hd, Bool.or_eq_true, Bool.and_eq_true, beq_iff_eq, hne, false_or, Bool.not_eq_true', decide_eq_true_eq, bne_iff_ne] at h5
      refine ⟨fun hm => ?_, h5.2⟩
      rcases h5.1 with (h6 | h6) | h6
      · have : (o.looksAt ops).contains d = true := by simpa using hm
        rw [this] at h6; cases h6
      · exact Or.inl h6
      · exact Or.inr h6
  exact ⟨fun i o hi ho => (key i o hi ho).1, fun i o e hi ho he hb => (key i o hi ho).2.1 e he hb, fun i k oi ok d hi hk hoi hok hne hd hm => ((key i oi hi hoi).2.2 k ok d hk hok hne hd).1 hm,
    fun i k oi ok d hi hk hoi hok hne hd => ((key i oi hi hoi).2.2 k ok d hk hok hne hd).2⟩

section
variable {P : Program} {ops : Array Oper} {n N : Nat} {a0 : Act} {w0 : World}

theorem InvA.start (vs : Nat → Value) : InvA ops n a0 (fun _ => False) vs a0 := ⟨rfl, rfl, fun _ _ _ _ _ h => h.elim, fun _ _ => rfl⟩

theorem InvA.put {D : Nat → Prop} {vs : Nat → Value} {a : Act} {i : Nat} {o : Oper} (hr : RegOk ops n N) (hN : a0.tmps.size = N) (h : InvA ops n a0 D vs a) (hi : i < n) (ho : ops[i]? = some o) (hD : ¬ D i) (v : Value) :
    InvA ops n a0 (fun k => D k ∨ k = i) (fun k => if k = i then v else vs k) (a.put o.dst v) := by
  obtain ⟨d, hd, hdN⟩ := hr.dst i o hi ho
  refine ⟨by rw [hd]; simpa [Act.put] using h.size, by rw [hd]; exact h.defs, ?_, ?_⟩
  · intro k ok d' hk hok hDk hd'
    rw [hd]
    by_cases hki : k = i
    · subst hki
      obtain rfl : ok = o := Option.some.inj (hok.symm.trans ho)
      obtain rfl : d' = d := Option.some.inj (hd'.symm.trans hd)
      have hlt : d' < a.tmps.size := by rw [h.size, hN]; exact hdN
      simp [Act.put, hlt]
    · have hne : d ≠ d' := by
        rintro rfl
        exact hr.one i k o ok d hi hk ho hok hki hd' hd
      rcases hDk with hDk | hDk
      · have := h.wr k ok d' hk hok hDk hd'
        simp [Act.put, Array.getElem?_setIfInBounds_ne hne, hki, this]
      · exact absurd hDk hki
  · intro t ht
    have hne : d ≠ t := by
      rintro rfl
      exact ht i o hi ho (Or.inr rfl) hd
    rw [hd]
    have := h.no t (fun k ok hk hok hDk => ht k ok hk hok (Or.inl hDk))
    simp [Act.put, Array.getElem?_setIfInBounds_ne hne, this]

theorem InvA.congr {D D' : Nat → Prop} {vs vs' : Nat → Value} {a : Act} (h : InvA ops n a0 D vs a) (hD : ∀ k, k < n → (D k ↔ D' k)) (hv : ∀ k, k < n → D k → vs k = vs' k) : InvA ops n a0 D' vs' a :=
  ⟨h.size, h.defs, fun k o d hk ho hd hdst => by rw [h.wr k o d hk ho ((hD k hk).2 hd) hdst, hv k hk ((hD k hk).2 hd)], fun t ht => h.no t (fun k o hk ho hd => ht k o hk ho ((hD k hk).1 hd))⟩

theorem puts_inv {l : List Oper} (hl : l.toArray = ops) (hr : RegOk ops n N) (hN : a0.tmps.size = N) (hn : n ≤ l.length) (vs : Nat → Value) : ∀ i, i ≤ n → InvA ops n a0 (fun k => k < i) vs (putsR (l.take i) 0 a0 vs)
  | 0, _ => (InvA.start vs).congr (fun k _ => by simp) (fun _ _ h => h.elim)
  | i + 1, hi => by
    have ih := puts_inv hl hr hN hn vs i (by omega)
    have hil : i < l.length := by omega
    have ho : ops[i]? = some l[i] := by rw [← hl]; simp [hil]
    have h1 := ih.put hr hN (by omega) ho (by omega) (vs i)
    rw [List.take_succ_eq_append_getElem hil, putsR_snoc, List.length_take, Nat.min_eq_left (by omega), Nat.zero_add]
    refine h1.congr (fun k _ => ⟨fun h => by omega, fun h => by omega⟩) (fun k _ _ => ?_)
    by_cases hki : k = i
    · rw [if_pos hki, hki]
    · rw [if_neg hki]

/-- Two frames agree at a slot whose writers are in both or in neither. -/
theorem InvA.agree {D D' : Nat → Prop} {vs : Nat → Value} {a a' : Act} (h : InvA ops n a0 D vs a) (h' : InvA ops n a0 D' vs a') (t : Nat) (ht : ∀ k o, k < n → ops[k]? = some o → o.dst = some t → (D k ↔ D' k)) : a.tmps[t]? = a'.tmps[t]? := by
  by_cases hw : ∃ k o, k < n ∧ ops[k]? = some o ∧ o.dst = some t ∧ D k
  · obtain ⟨k, o, hk, ho, hd, hD⟩ := hw
    rw [h.wr k o t hk ho hD hd, h'.wr k o t hk ho ((ht k o hk ho hd).1 hD) hd]
  · rw [h.no t (fun k o hk ho hD hd => hw ⟨k, o, hk, ho, hd, hD⟩), h'.no t (fun k o hk ho hD hd => hw ⟨k, o, hk, ho, hd, (ht k o hk ho hd).2 hD⟩)]

theorem InvA.uniq {D D' : Nat → Prop} {vs : Nat → Value} {a a' : Act} (h : InvA ops n a0 D vs a) (h' : InvA ops n a0 D' vs a') (hD : ∀ k, k < n → (D k ↔ D' k)) : a = a' := by
  have h1 : a.tmps = a'.tmps := Array.ext_getElem? (fun t => h.agree h' t (fun k _ hk _ _ => hD k hk))
  have h2 : a.defers = a'.defers := h.defs.trans h'.defs.symm
  cases a; cases a'
  cases h1; cases h2; rfl

theorem wanted_congr {o : Oper} {a a' : Act} (h : ∀ t ∈ o.looksAt ops, a.tmps[t]? = a'.tmps[t]?) : Region.wanted o (yielded ops a.tmps) = Region.wanted o (yielded ops a'.tmps) := by
  unfold Region.wanted
  cases hg : o.guard with
  | none => rfl
  | some gw =>
    obtain ⟨g, want⟩ := gw
    have hy : yielded ops a.tmps g = yielded ops a'.tmps g := by
      unfold yielded
      cases hd : (ops[g]?).bind (·.dst) with
      | none => rfl
      | some d =>
        have hm : d ∈ o.looksAt ops := by
          unfold Oper.looksAt
          rw [hg]
          exact List.mem_append_right _ (by simp [hd])
        simp [h d hm]
    simp only [hy]

theorem eval_congr {o : Oper} (hs : ∀ cs b, o.op ≠ .select cs b) {a a' : Act} (h : ∀ t ∈ o.looksAt ops, a.tmps[t]? = a'.tmps[t]?) : execOp a.eval o = execOp a'.eval o :=
  execOp_congr o hs fun x hx => by
    cases x with
    | tmp t =>
      have hm : t ∈ o.looksAt ops := List.mem_append_left _ (List.mem_filterMap.2 ⟨.tmp t, by simpa using hx, rfl⟩)
      simp [Act.eval, h t hm]
    | _ => rfl

/-- A step shown at one frame serves at another one that it cannot tell from it. -/
theorem wp_transfer {o : Oper} {a A : Act} {w : World} {K1 K2 : Act → World → Prop} {Q : Exit → Act → World → Prop} (he : execOp a.eval o = execOp A.eval o) (hA : A.defers = [])
    (hK : ∀ v w', K1 (A.put o.dst v) w' → K2 (a.put o.dst v) w') (hd : ∀ a' w', K1 a' w' → a'.defers = []) (h : o.wp P A w K1 (fun _ _ _ => False)) : o.wp P a w K2 Q := by
  unfold Oper.wp at *
  rw [he]
  generalize (execOp A.eval o).run P w = r at *
  cases r with
  | ok x w' =>
    cases x <;> simp only [Oper.upon] at h ⊢
    case value v => exact hK v w' h
    case skip => exact hK _ w' h
    case defer d =>
      have := hd _ _ h
      cases ho : o.dst <;> simp [Act.put, ho] at this
    case enter f args =>
      refine h.mono (fun e w'' he => ?_)
      cases e with
      | returned v => exact hK v w'' he
      | panicked c => exact he.elim
      | outgrown =>
        obtain ⟨_, _, hh⟩ := he
        exact hh.elim
    case row row args => exact Rows.mono h (fun v w'' he => hK v w'' he)
  | halt x w' =>
    cases x <;> simp only [Oper.upon] at h ⊢

theorem valOf_put {o : Oper} {a : Act} {d : Nat} {v : Value} (hd : o.dst = some d) (hlt : d < a.tmps.size) : valOf o (a.put o.dst v) = v := by
  unfold valOf
  rw [hd]
  simp [Act.put, hlt]

/-- How many of the first n are not listed yet. -/
def unl (listed : Array Bool) (n : Nat) : Nat := ((List.range n).filter fun k => !listed.getD k false).length

theorem unl_zero {listed : Array Bool} {n : Nat} (h : unl listed n = 0) (k : Nat) (hk : k < n) : listed.getD k false = true := by
  have h1 := List.eq_nil_of_length_eq_zero h
  have h2 := List.filter_eq_nil_iff.1 h1 k (List.mem_range.2 hk)
  simpa using h2

theorem unl_pos {listed : Array Bool} {n f : Nat} (h : unl listed n = f + 1) : ∃ i, i < n ∧ listed.getD i false = false ∧ ∀ k, k < i → listed.getD k false = true := by
  have hex : ∃ i, i < n ∧ listed.getD i false = false := by
    unfold unl at h
    obtain ⟨i, hi⟩ := List.exists_mem_of_length_pos (l := (List.range n).filter fun k => !listed.getD k false) (by omega)
    obtain ⟨h1, h2⟩ := List.mem_filter.1 hi
    exact ⟨i, List.mem_range.1 h1, by simpa using h2⟩
  clear h
  obtain ⟨i, hi⟩ := hex
  induction i using Nat.strongRecOn with
  | _ i ih =>
    by_cases hall : ∀ k, k < i → listed.getD k false = true
    · exact ⟨i, hi.1, hi.2, hall⟩
    · have : ∃ k, k < i ∧ listed.getD k false = false := by
        apply Classical.byContradiction
        intro hno
        exact hall fun k hk => by
          cases hl : listed.getD k false with
          | true => rfl
          | false => exact absurd ⟨k, hk, hl⟩ hno
      obtain ⟨k, hk, hkl⟩ := this
      exact ih k hk ⟨by omega, hkl⟩

theorem unl_set {listed : Array Bool} {n f i : Nat} (h : unl listed n = f + 1) (hi : i < n) (hs : i < listed.size) (hl : listed.getD i false = false) : unl (listed.setIfInBounds i true) n = f := by
  have hcount : ∀ m, i < m → unl (listed.setIfInBounds i true) m + 1 = unl listed m := by
    intro m
    induction m with
    | zero => intro hm; omega
    | succ m ih =>
      intro hm
      have e1 : ∀ (L : Array Bool), unl L (m + 1) = unl L m + (if L.getD m false then 0 else 1) := by
        intro L
        unfold unl
        rw [List.range_succ, List.filter_append, List.length_append]
        have e0 : (List.filter (fun k => !L.getD k false) [m]).length = if L.getD m false then 0 else 1 := by
          simp only [List.filter_cons, List.filter_nil]
          cases L.getD m false <;> rfl
        rw [e0]
      rw [e1, e1]
      by_cases hmi : m = i
      · subst hmi
        have hz : ∀ m', m' ≤ m → unl (listed.setIfInBounds m true) m' = unl listed m' := by
          intro m' hm'
          unfold unl
          congr 1
          refine List.filter_congr (fun k hk => ?_)
          have hkm : m ≠ k := by have := List.mem_range.1 hk; omega
          rw [getD_set_ne false hkm]
        rw [hz m (Nat.le_refl _), hl]
        have : (listed.setIfInBounds m true).getD m false = true := by simp [hs]
        rw [this]; simp
      · have hne : i ≠ m := fun e => hmi e.symm
        rw [getD_set_ne false hne]
        have := ih (by omega)
        omega
  have := hcount n hi
  omega

/-- The rest of the region, once the first n have come up: one after another. -/
def restB (ops : Array Oper) (n : Nat) : Bool := Region.seqB .any ops (ops.size - n) n (Array.replicate n true ++ Array.replicate (ops.size - n) false)

def allB (ops : Array Oper) (n N : Nat) : Bool := Region.noSelect ops && regB ops n N && decide (n ≤ ops.size) && (decide (n = ops.size) || (Region.sinkB .any ops n && Region.chainB .any ops n)) && restB ops n

/-- One more is done. -/
def andI (D : Nat → Prop) (i : Nat) : Nat → Prop := fun k => D k ∨ k = i
def setI (vs : Nat → Value) (i : Nat) (v : Value) : Nat → Value := fun k => if k = i then v else vs k

/-- THE STEP that is owed for each operation: J speaks of what is done. -/
def StepJ (P : Program) (ops : Array Oper) (l : List Oper) (a0 : Act) (J : (Nat → Prop) → (Nat → Value) → World → Prop) (i : Nat) (o : Oper) : Prop :=
  ∀ (D : Nat → Prop) (vs : Nat → Value) (w : World), ¬ D i → (∀ j, waitsOn o j = true → D j) → (∀ k ok, ops[k]? = some ok → D k → ∀ j, waitsOn ok j = true → D j) → J D vs w →
    IfW (Region.wanted o (yielded ops (putsR (l.take i) 0 a0 vs).tmps)) (o.wp P (putsR (l.take i) 0 a0 vs) w (fun a' w' => a'.defers = [] ∧ J (andI D i) (setI vs i (valOf o a')) w') (fun _ _ _ => False)) (J (andI D i) (setI vs i undef) w)

theorem any_of_J {J : (Nat → Prop) → (Nat → Value) → World → Prop} {l : List Oper} {Q : Exit → Act → World → Prop} (hl : l.toArray = ops) (hB : allB ops n N = true) (hN : a0.tmps.size = N) (hdef : a0.defers = [])
    (hJ : ∀ D D' vs vs' w, J D vs w → (∀ k, k < n → (D k ↔ D' k)) → (∀ k, k < n → D k → vs k = vs' k) → J D' vs' w)
    (hS : ∀ i o, i < n → ops[i]? = some o → StepJ P ops l a0 J i o)
    (hF : ∀ D vs w, (∀ k, k < n → D k) → J D vs w → wpList P ops Q (l.drop n) (putsR (l.take n) 0 a0 vs) w) :
    ∀ (f : Nat) (listed : Array Bool) (vs : Nat → Value) (a : Act) (w : World), HeadInv .any ops n listed → unl listed n = f → InvA ops n a0 (fun k => listed.getD k false = true) vs a →
      J (fun k => listed.getD k false = true) vs w → wpAny P .any ops Q (f + (ops.size - n)) listed a w := by
  simp only [allB, Bool.and_eq_true, decide_eq_true_eq, Bool.or_eq_true] at hB
  obtain ⟨⟨⟨⟨hsel, hreg⟩, hnle⟩, htail⟩, hrest⟩ := hB
  have hr := regB_ok hreg
  have hnl : n ≤ l.length := by rw [← hl] at hnle; simpa using hnle
  intro f
  induction f with
  | zero =>
    intro listed vs a w inv hu hia hphi
    have hall := unl_zero hu
    have ha : a = putsR (l.take n) 0 a0 vs := hia.uniq (puts_inv hl hr hN hnl vs n (Nat.le_refl _)) (fun k hk => ⟨fun _ => hk, fun _ => hall k hk⟩)
    have hlist : listed = Array.replicate n true ++ Array.replicate (ops.size - n) false := by
      refine Array.ext_getElem? (fun t => ?_)
      by_cases htn : t < n
      · have h1 := hall t htn
        have hts : t < listed.size := by rw [inv.size]; omega
        have h2 : listed[t]? = some true := by
          rw [Array.getD_eq_getD_getElem?, Array.getElem?_eq_getElem hts] at h1
          rw [Array.getElem?_eq_getElem hts]
          simpa using h1
        rw [h2, Array.getElem?_append_left (by simpa using htn)]
        simp [htn]
      · by_cases hts : t < ops.size
        · have h1 := inv.tail t (by omega) hts
          have hts' : t < listed.size := by rw [inv.size]; exact hts
          have h2 : listed[t]? = some false := by
            rw [Array.getD_eq_getD_getElem?, Array.getElem?_eq_getElem hts'] at h1
            rw [Array.getElem?_eq_getElem hts']
            simpa using h1
          have h3 : t - n < ops.size - n := by omega
          rw [h2, Array.getElem?_append_right (by simpa using Nat.le_of_not_lt htn)]
          simp [h3]
        · rw [Array.getElem?_eq_none (by rw [inv.size]; omega), Array.getElem?_eq_none (by simp; omega)]
    have hdl : (l.drop n).length = ops.size - n := by rw [← hl]; simp
    have := wpAny_of_seq (ops := ops) (P := P) (md := .any) (Q' := Q) (l.drop n) n listed a w (fun j => by rw [← hl]; simp [List.getElem?_drop]) (by rw [hdl, hlist]; exact hrest) (by
      rw [ha]
      exact hF _ vs w (fun k hk => hall k hk) hphi)
    rw [hdl] at this
    rw [Nat.zero_add]
    exact this
  | succ f ih =>
    intro listed vs a w inv hu hia hphi
    rw [show f + 1 + (ops.size - n) = (f + (ops.size - n)) + 1 by omega]
    obtain ⟨i0, hi0n, hi0l, hi0b⟩ := unl_pos hu
    have hi0s : i0 < listed.size := by rw [inv.size]; omega
    refine ⟨fun hno => ?_, fun i hi => ?_⟩
    · exfalso
      have ho : ∃ o, ops[i0]? = some o := ⟨ops[i0]'(by omega), Array.getElem?_eq_getElem (by omega)⟩
      obtain ⟨o, ho⟩ := ho
      have : i0 ∈ Region.ready .any ops listed := mem_ready.2 ⟨getD_in hi0s hi0l, o, ho, fun e he hb => hi0b _ (hr.back i0 o e hi0n ho he hb)⟩
      rw [hno] at this
      cases this
    · obtain ⟨hun, o, ho, hall⟩ := mem_ready.1 hi
      have hilt : i < ops.size := (Array.getElem?_eq_some_iff.1 ho).1
      have hin : i < n := by
        rcases Nat.lt_or_ge i n with h | h
        · exact h
        · rcases htail with h' | ⟨hs, hc⟩
          · omega
          · have hnlt : n < ops.size := by omega
            exact absurd hi (tail_waits hs hc hnlt inv _ i0 rfl hi0n (getD_in hi0s hi0l) i h)
      have hil : listed.getD i false = false := getD_both hun
      have his : i < listed.size := by rw [inv.size]; exact hilt
      have hA := puts_inv hl hr hN hnl vs i (Nat.le_of_lt hin)
      have hag : ∀ t ∈ o.looksAt ops, a.tmps[t]? = (putsR (l.take i) 0 a0 vs).tmps[t]? := by
        intro t ht
        refine hia.agree hA t (fun k ok hk hok hd => ?_)
        by_cases hki : k = i
        · subst hki
          exact ⟨fun h => (by rw [hil] at h; cases h), fun h => absurd h (Nat.lt_irrefl _)⟩
        · rcases hr.look i k o ok t hin hk ho hok hki hd ht with ⟨h1, h2⟩ | ⟨h1, h2⟩
          · refine ⟨fun _ => h1, fun _ => ?_⟩
            obtain ⟨e, he', hb⟩ := List.any_eq_true.1 h2
            have he := Array.mem_toList_iff.1 he'
            simp only [Bool.and_eq_true, beq_iff_eq] at hb
            have := hall e he hb.1
            rwa [hb.2] at this
          · refine ⟨fun hkl => ?_, fun h => by omega⟩
            exfalso
            obtain ⟨e, he', hb⟩ := List.any_eq_true.1 h2
            have he := Array.mem_toList_iff.1 he'
            simp only [Bool.and_eq_true, beq_iff_eq] at hb
            have := inv.closed k ok hok hkl e he hb.1
            rw [hb.2, hil] at this
            cases this
      have hpre : ∀ j, waitsOn o j = true → listed.getD j false = true := by
        intro j hj
        obtain ⟨e, he', hb⟩ := List.any_eq_true.1 hj
        have he := Array.mem_toList_iff.1 he'
        simp only [Bool.and_eq_true, beq_iff_eq] at hb
        have h1 := hall e he hb.1
        rwa [hb.2] at h1
      have hcl : ∀ k ok, ops[k]? = some ok → listed.getD k false = true → ∀ j, waitsOn ok j = true → listed.getD j false = true := by
        intro k ok hok hkl j hj
        obtain ⟨e, he', hb⟩ := List.any_eq_true.1 hj
        have he := Array.mem_toList_iff.1 he'
        simp only [Bool.and_eq_true, beq_iff_eq] at hb
        have := inv.closed k ok hok hkl e he hb.1
        rwa [hb.2] at this
      have hst := hS i o hin ho _ vs w (by rw [hil]; exact Bool.noConfusion) hpre hcl hphi
      obtain ⟨d, hd, hdN⟩ := hr.dst i o hin ho
      have key : ∀ (v : Value) (w' : World), J (andI (fun k => listed.getD k false = true) i) (setI vs i v) w' → wpAny P .any ops Q (f + (ops.size - n)) (listed.setIfInBounds i true) (a.put o.dst v) w' := by
        intro v w' hp
        have hD : ∀ k, k < n → ((listed.getD k false = true ∨ k = i) ↔ (listed.setIfInBounds i true).getD k false = true) := fun k hk => by
          by_cases hki : k = i
          · subst hki
            simp [his]
          · have hne : i ≠ k := fun e => hki e.symm
            rw [getD_set_ne false hne]
            simp [hki]
        have hia' := (hia.put hr hN hin ho (by rw [hil]; simp) v).congr (D' := fun k => (listed.setIfInBounds i true).getD k false = true) (vs' := setI vs i v) hD (fun _ _ _ => rfl)
        exact ih _ _ _ _ (inv.set hi hin) (unl_set hu hin his hil) hia' (hJ _ _ _ _ _ hp hD (fun _ _ _ => rfl))
      unfold wpOp
      rw [ho]
      simp only
      rw [wanted_congr hag]
      split
      · rename_i hw
        have hst := hst.1 hw
        left
        refine wp_transfer (eval_congr (Region.noSelect_spec hsel i o · · ho) hag) (by rw [hA.defs, hdef]) ?_ (fun a' w' h => h.1) hst
        intro v w' h
        have hsz : d < (putsR (l.take i) 0 a0 vs).tmps.size := by rw [hA.size, hN]; exact hdN
        obtain ⟨_, h2⟩ := h
        rw [valOf_put hd hsz] at h2
        exact key v w' h2
      · rename_i hw
        have hst := hst.2 (by simpa using hw)
        exact key undef w hst


/-- **THE REGION**: n operations in any order that their waits allow; then the others, one after another. -/
theorem wp_region_J {J : (Nat → Prop) → (Nat → Value) → World → Prop} {id : Nat} {l : List Oper} {Q : Exit → Act → World → Prop} {w : World} (n N : Nat) (hm : P.follows .mixedOrders = true) (hN : a0.tmps.size = N) (hdef : a0.defers = []) (hB : allB l.toArray n N = true)
    (hJ : ∀ D D' vs vs' w, J D vs w → (∀ k, k < n → (D k ↔ D' k)) → (∀ k, k < n → D k → vs k = vs' k) → J D' vs' w)
    (h0 : J (fun _ => False) (fun _ => undef) w.drew)
    (hS : ∀ i o, i < n → l.toArray[i]? = some o → StepJ P l.toArray l a0 J i o)
    (hF : ∀ D vs w', (∀ k, k < n → D k) → J D vs w' → wpList P l.toArray Q (l.drop n) (putsR (l.take n) 0 a0 vs) w') :
    (Code.region id l.toArray true).wp P Q a0 w := by
  have hn : n ≤ l.toArray.size := by simp only [allB, Bool.and_eq_true, decide_eq_true_eq] at hB; exact hB.1.1.2
  refine wp_region_any hm ?_
  have H := any_of_J (P := P) (J := J) (Q := Q) (l := l) rfl hB hN hdef hJ hS hF n (Array.replicate l.toArray.size false) (fun _ => undef) a0 w.drew
    ⟨by simp, fun j oj _ hl => (by rw [getD_replicate_false] at hl; cases hl), fun t _ ht => getD_in (by simpa using ht) (getD_replicate_false _ _)⟩
    (by unfold unl; rw [List.filter_eq_self.2 (fun k _ => by rw [getD_replicate_false]; rfl), List.length_range])
    ⟨rfl, rfl, fun k o d _ _ h => (by rw [getD_replicate_false] at h; cases h), fun _ _ => rfl⟩ (hJ _ _ _ _ _ h0 (fun k _ => by rw [getD_replicate_false]; simp) (fun _ _ h => h.elim))
  rw [show n + (l.toArray.size - n) = l.toArray.size by omega] at H
  exact H
end

end Am
end Go.Proofs.Ytkcagkcphobmfaa
