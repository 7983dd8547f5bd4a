/-
  THE ABSTRACT MACHINE: A REGION THAT DRAWS ITS ORDER, WITH STORES: a store may come ahead of operations that stand before it. No condition; nothing of the program.
-/
import Derived.Test.YtoagihianelhjaaJ1
import Derived.Test.YtoagihianelhjaaJ6
import Derived.Test.YtoagihianelhjaaJ5
set_option linter.unusedVariables false
set_option linter.unusedSimpArgs false
namespace Go.Proofs.Ytoagihianelhjaa.Ne
open Go.Proofs.Ytoagihianelhjaa
open Go.RowKit Am

def avId : AV → Option Nat
  | .ptr id _ | .own id | .eptr id _ _ _ => some id
  | _ => none
/-- The objects that operands speak of. -/
def idsOf (s : AS) (l : List Operand) : List Nat := l.filterMap fun x => (geto s x).bind avId
theorem idsOf_mem {s : AS} {l : List Operand} {x : Operand} {av : AV} {id : Nat} (hx : x ∈ l) (hg : geto s x = some av) (hi : avId av = some id) : id ∈ idsOf s l :=
  List.mem_filterMap.2 ⟨x, hx, by rw [hg]; exact hi⟩
/-- Operations whose answer, or whose deed, hangs on objects. -/
def isLen : Op → Bool
  | .call c => match c.callee with
    | .builtin .len => true
    | _ => false
  | _ => false
theorem isLen_c {c : Call} (h : isLen (.call c) = true) : c.callee = .builtin .len := by
  simp only [isLen] at h
  split at h
  · assumption
  · cases h
def isRd : Op → Bool
  | .load .. | .indexAddr .. | .store .. => true
  | .call c => !isLen (.call c)
  | _ => false
/-- A row's length. -/
def rowN : Option AO → Option Nat
  | some (.row _ _ n _) => some n
  | _ => none
theorem rowN_of {o : Option AO} {n : Nat} (h : rowN o = some n) : ∃ e sz el, o = some (.row e sz n el) := by
  unfold rowN at h
  split at h
  · cases h; exact ⟨_, _, _, rfl⟩
  · cases h
/-- The objects that such an operation speaks of. -/
def idsR (s : AS) (op : Op) : List Nat := bif isRd op then idsOf s op.operands.toList else []
theorem idsR_of {s : AS} {op : Op} {id : Nat} (h : id ∈ idsR s op) : id ∈ idsOf s op.operands.toList := by
  unfold idsR at h
  cases e : isRd op with
  | true => rw [e] at h; exact h
  | false => rw [e] at h; cases h
theorem idsR_to {s : AS} {op : Op} {id : Nat} (hr : isRd op = true) (h : id ∈ idsOf s op.operands.toList) : id ∈ idsR s op := by
  unfold idsR; rw [hr]; exact h
theorem avId_R {ρ : Rho} {B : BS} {w : World} {av : AV} {c : Value} {id : Nat} (hi : avId av = some id) (h : AR ρ B w av c) : ∃ v, ρ id = some v := by
  cases av <;> simp only [avId, Option.some.injEq, reduceCtorEq] at hi
  · subst hi; obtain ⟨g, h1, _⟩ := h; exact ⟨_, h1⟩
  · subst hi; exact ⟨_, h.1⟩
  · subst hi; obtain ⟨g, n, cap, h1, _⟩ := h; exact ⟨_, h1⟩

section
variable {P : Program} {T : TypeId → Option TI} {ops : Array Oper} {s s' : AS} {o : Oper} {Q : Qs}

theorem evV_congr2 {op : Op} (hnl : isLen op = false) (h : ∀ x ∈ op.operands, geto s x = geto s' x) (hh : ∀ id ∈ idsR s op, lk s.hp id = lk s'.hp id) : evV T s op = evV T s' op := by
  have key : isRd op = true → ∀ x ∈ op.operands, ∀ av id, geto s x = some av → avId av = some id → lk s.hp id = lk s'.hp id := fun hr x hx av id hg hi => hh id (idsR_to hr (idsOf_mem (by simpa using hx) hg hi))
  have e1 : evV T s op = evV T ⟨s.n, s.sl, s'.hp⟩ op := by
    have g : ∀ x, geto s x = geto ⟨s.n, s.sl, s'.hp⟩ x := fun x => by cases x with | const v => cases v <;> rfl | _ => rfl
    have hint : ∀ x, ints2 s x = ints2 ⟨s.n, s.sl, s'.hp⟩ x := fun x => by unfold ints2; rw [g x]
    cases op with
    | load t x =>
      simp only [evV]
      rw [← g x]
      split
      · rfl
      · split
        · rename_i id off hx; rw [key rfl x (by simp [Op.operands]) _ id hx rfl]
        · rename_i id sz i j hx; rw [key rfl x (by simp [Op.operands]) _ id hx rfl]
        · rfl
        · rfl
    | indexAddr t x ix =>
      simp only [evV]
      rw [← g x, ← hint ix]
      split
      · rfl
      · split
        · rfl
        · split
          · split
            · rfl
            · rename_i id hx; rw [key rfl x (by simp [Op.operands]) _ id hx rfl]
            · rfl
          · rfl
    | call c =>
      have hl : getls s c.args.toList = getls ⟨s.n, s.sl, s'.hp⟩ c.args.toList := getls_congr _ fun x _ => g x
      simp only [evV]
      rw [hl]
      split
      · split
        · rename_i x t ha ht
          rw [← g x]
          split
          · rfl
          · split
            · rfl
            · rfl
            · rfl
            · rename_i id he hx
              rw [key (by show (!isLen (.call c)) = true; rw [hnl]; rfl) x (by simp only [Op.operands, Call.operands]; exact Array.mem_append.2 (Or.inr (by have : x ∈ c.args.toList := (by rw [ha]; simp); simpa using this))) _ id hx rfl]
            · rfl
        · rfl
      · rfl
      · rfl
      · rfl
    | move x => exact g x
    | assign x => exact g x
    | pick c a b => simp only [evV]; rw [g c, g a, g b]
    | binOp op t x y yt => simp only [evV]; rw [g x, g y]
    | unOp op t x => simp only [evV]; rw [g x]
    | convert src dst x => simp only [evV]; rw [g x]
    | fieldAddr t x f => simp only [evV]; rw [g x]
    | field t x f => simp only [evV]; rw [g x]
    | extract x i => simp only [evV]; rw [g x]
    | slice t x lo hi mx =>
      cases mx with
      | some m => rfl
      | none =>
        have hlo : ∀ y d, bndV s y d = bndV ⟨s.n, s.sl, s'.hp⟩ y d := by
          intro y d
          cases y with
          | none => rfl
          | some y => simp only [bndV]; rw [hint y]
        simp only [evV, ← g x, ← hlo]
    | build t ps =>
      simp only [evV]
      rw [getps_congr ps.toList (fun p _ => g p.2)]
    | makeFunc fn fi caps =>
      have hl := getls_congr caps.toList (fun x _ => g x)
      cases fn <;> first | rfl | (simp only [evV]; rw [hl])
    | _ => rfl
  rw [e1]
  refine evV_congr rfl (fun x hx => ?_)
  rw [← h x hx]
  cases x with
  | const v => cases v <;> rfl
  | _ => rfl

theorem evV_len {op : Op} {av : AV} (hl : isLen op = true) (h : ∀ x ∈ op.operands, geto s x = geto s' x) (hh : ∀ id ∈ idsOf s op.operands.toList, ∀ n, rowN (lk s.hp id) = some n → rowN (lk s'.hp id) = some n) (he : evV T s op = some av) : evV T s' op = some av := by
  cases op with
  | call c =>
    have hc := isLen_c hl
    simp only [evV, hc] at he ⊢
    split at he
    · rename_i x t ha ht
      have hx : x ∈ (Op.call c).operands := (by simp only [Op.operands, Call.operands]; exact Array.mem_append.2 (Or.inr (by have : x ∈ c.args.toList := (by rw [ha]; simp); simpa using this)))
      rw [← h x hx]
      split at he
      · cases he
      · rename_i ti hti
        cases hel : ti.elem with
        | none => rw [hel] at he; simp at he
        | some e =>
          rw [hel] at he
          cases hg : geto s x with
          | none => rw [hg] at he; simp at he
          | some gv =>
            rw [hg] at he
            cases gv with
            | own id =>
              simp only at he ⊢
              split at he
              · rename_i e0 sz0 n0 el0 hlk
                obtain ⟨e1, sz1, el1, h1⟩ := rowN_of (hh id (idsOf_mem (by simpa using hx) hg rfl) n0 (by rw [hlk]; rfl))
                rw [h1]
                exact he
              · cases he
            | d dv =>
              cases dv with
              | agg ls => simp at he
              | one l =>
                cases l with
                | v x => cases x <;> first | exact he | (simp at he; done)
                | _ => first | exact he | (simp at he; done)
            | _ => simp at he
    · cases he
  | _ => cases hl

theorem evS_congr2 {op : Op} (h : ∀ x ∈ op.operands, geto s x = geto s' x) (hh : ∀ id ∈ idsR s op, lk s.hp id = lk s'.hp id) : evS T s op = evS T s' op := by
  cases op with
  | store t x y =>
    have hx := h x (by simp [Op.operands])
    have hy := h y (by simp [Op.operands])
    have key : ∀ av id, geto s x = some av → avId av = some id → lk s.hp id = lk s'.hp id := fun av id hg hi => hh id (idsR_to rfl (idsOf_mem (x := x) (by simp [Op.operands]) hg hi))
    simp only [evS]
    rw [← hx, ← hy]
    split
    · rfl
    · split
      · rename_i id off d hgx hgy; rw [key _ id hgx rfl]
      · rename_i id sz i d hgx hgy; rw [key _ id hgx rfl]
      · rfl
  | _ => rfl

def isSt : Op → Bool
  | .store .. => true
  | _ => false
def isNw : Op → Bool
  | .alloc .. | .box .. | .makeSlice .. => true
  | _ => false
theorem evS_id {op : Op} {id : Nat} {ob : AO} (h : evS T s op = some (id, ob)) : isSt op = true ∧ id ∈ idsR s op ∧ (lk s.hp id).isSome = true ∧ rowN (some ob) = rowN (lk s.hp id) := by
  cases op with
  | store t x y =>
    refine ⟨rfl, ?_⟩
    simp only [evS] at h
    split at h
    · cases h
    · split at h
      · rename_i id' off d hgx hgy
        split at h
        · rename_i hlk
          split at h
          · simp only [Option.some.injEq, Prod.mk.injEq] at h; obtain ⟨rfl, rfl⟩ := h; exact ⟨idsR_to rfl (idsOf_mem (x := x) (by simp [Op.operands]) hgx rfl), by rw [hlk]; rfl, by rw [hlk]; rfl⟩
          · cases h
        · cases h
      · rename_i id' sz i d hgx hgy
        split at h
        · rename_i hlk
          split at h
          · simp only [Option.some.injEq, Prod.mk.injEq] at h; obtain ⟨rfl, rfl⟩ := h; exact ⟨idsR_to rfl (idsOf_mem (x := x) (by simp [Op.operands]) hgx rfl), by rw [hlk]; rfl, by rw [hlk]; rfl⟩
          · cases h
        · cases h
      · cases h
  | _ => simp [evS] at h
theorem evN_nw {op : Op} {ob : AO} (h : evN T s op = some ob) : isNw op = true := by
  cases op <;> first | rfl | simp [evN] at h

/-- Does the operation wait for that one, or for one that does? -/
def reach (ops : Array Oper) : Nat → Oper → Nat → Bool
  | 0, _, _ => false
  | f + 1, o, k => waitsOn o k || o.after.toList.any fun e => Region.binds .any e && match ops[e.on]? with
    | some o' => reach ops f o' k
    | none => false
theorem reach_ok {ops : Array Oper} {D : Nat → Prop} (hcl : ∀ k ok, ops[k]? = some ok → D k → ∀ j, waitsOn ok j = true → D j) : ∀ (f : Nat) (o : Oper) (k : Nat), (∀ j, waitsOn o j = true → D j) → reach ops f o k = true → D k
  | 0, _, _, _, h => by cases h
  | f + 1, o, k, hw, h => by
    rw [reach, Bool.or_eq_true] at h
    rcases h with h | h
    · exact hw k h
    · obtain ⟨e, he, h2⟩ := List.any_eq_true.1 h
      rw [Bool.and_eq_true] at h2
      obtain ⟨hb, h3⟩ := h2
      split at h3
      · rename_i o' ho'
        have hDe : D e.on := hw e.on (List.any_eq_true.2 ⟨e, he, by rw [hb]; exact beq_self_eq_true _⟩)
        exact reach_ok hcl f o' k (hcl _ _ ho' hDe) h3
      · cases h3
/-- Does the operation wait for those with which it may not change places? -/
def cflB (ops : Array Oper) (log : List (Nat × List Nat × Bool)) (o : Oper) (ids : List Nat) : Bool :=
  (log.all fun q => !(isSt o.op || q.2.2) || ids.all (fun id => !(q.2.1).contains id) || reach ops 6 o q.1) &&
  (!isNw o.op || match o.dst with
    | some d => log.all fun q => !(q.2.1).contains d
    | none => true)
inductive ChS (P : Program) (T : TypeId → Option TI) (ops : Array Oper) (K : AS → Prop) : Nat → List (Nat × List Nat × Bool) → List Oper → AS → Prop
  | nil {i : Nat} {log : List (Nat × List Nat × Bool)} {s : AS} (h : K s) : ChS P T ops K i log [] s
  | cons {i : Nat} {log : List (Nat × List Nat × Bool)} {o : Oper} {l : List Oper} {s s1 : AS} (h : OpS P T ops o s s1) (hc : cflB ops log o (idsR s o.op) = true) (k : ChS P T ops K (i + 1) ((i, idsR s o.op, isSt o.op) :: log) l s1) : ChS P T ops K i log (o :: l) s

abbrev idO (st : Nat → AS) (i : Nat) (o : Oper) : List Nat := idsR (st i) o.op
theorem ChS.st {K : AS → Prop} {i0 : Nat} {log : List (Nat × List Nat × Bool)} {l : List Oper} (h : ChS P T ops K i0 log l s) : ∃ st : Nat → AS, st 0 = s ∧ K (st l.length) ∧ (∀ (i : Nat) (o : Oper), l[i]? = some o → OpS P T ops o (st i) (st (i + 1))) ∧
    (∀ (i : Nat) (o : Oper), l[i]? = some o → ∀ q ∈ log, (isSt o.op = true ∨ q.2.2 = true) → ∀ id ∈ idO st i o, id ∈ q.2.1 → reach ops 6 o q.1 = true) ∧
    (∀ (i : Nat) (o : Oper), l[i]? = some o → isNw o.op = true → ∀ d, o.dst = some d → ∀ q ∈ log, ¬ d ∈ q.2.1) ∧
    (∀ (i : Nat) (o : Oper) (k : Nat) (ok : Oper), k < i → l[i]? = some o → l[k]? = some ok → (isSt o.op = true ∨ isSt ok.op = true) → ∀ id ∈ idO st i o, id ∈ idO st k ok → reach ops 6 o (i0 + k) = true) ∧
    (∀ (i : Nat) (o : Oper) (k : Nat) (ok : Oper), k < i → l[i]? = some o → l[k]? = some ok → isNw o.op = true → ∀ d, o.dst = some d → ¬ d ∈ idO st k ok) := by
  induction h with
  | nil h => exact ⟨fun _ => _, rfl, h, by simp, by simp, by simp, by simp, by simp⟩
  | @cons i0 log o l s s1 h hc k ih =>
    obtain ⟨st, h1, h2, h3, h4, h5, h6, h7⟩ := ih
    simp only [cflB, Bool.and_eq_true, Bool.or_eq_true, List.all_eq_true] at hc
    obtain ⟨hc1, hc2⟩ := hc
    refine ⟨fun i => match i with | 0 => s | i + 1 => st i, rfl, h2, ?_, ?_, ?_, ?_, ?_⟩
    · intro i o' ho
      cases i with
      | zero => obtain rfl : o = o' := by simpa using ho
                show OpS P T ops o s (st 0); rw [h1]; exact h
      | succ i => exact h3 i o' (by simpa using ho)
    · intro i o' ho q hq hst id hid hidq
      cases i with
      | zero =>
        obtain rfl : o = o' := by simpa using ho
        rcases hc1 q hq with (h8 | h8) | h8
        · exfalso; rcases hst with e | e <;> simp [e] at h8
        · exfalso
          have h9 := h8 id hid
          simp at h9; exact h9 hidq
        · exact h8
      | succ i => exact h4 i o' (by simpa using ho) q (List.mem_cons_of_mem _ hq) hst id hid hidq
    · intro i o' ho hnw d hd q hq
      cases i with
      | zero =>
        obtain rfl : o = o' := by simpa using ho
        rcases hc2 with h8 | h8
        · rw [hnw] at h8; cases h8
        · rw [hd] at h8
          have h9 := List.all_eq_true.1 h8 q hq
          simpa using h9
      | succ i => exact h5 i o' (by simpa using ho) hnw d hd q (List.mem_cons_of_mem _ hq)
    · intro i o' k' ok hk ho hok hst id hid hidk
      cases i with
      | zero => omega
      | succ i =>
        cases k' with
        | zero =>
          obtain rfl : o = ok := by simpa using hok
          exact h4 i o' (by simpa using ho) (i0, idsR s o.op, isSt o.op) (List.mem_cons_self ..) hst id hid hidk
        | succ k' =>
          have := h6 i o' k' ok (by omega) (by simpa using ho) (by simpa using hok) hst id hid hidk
          rwa [show i0 + 1 + k' = i0 + (k' + 1) by omega] at this
    · intro i o' k' ok hk ho hok hnw d hd
      cases i with
      | zero => omega
      | succ i =>
        cases k' with
        | zero =>
          obtain rfl : o = ok := by simpa using hok
          exact h5 i o' (by simpa using ho) hnw d hd (i0, idsR s o.op, isSt o.op) (List.mem_cons_self ..)
        | succ k' => exact h7 i o' k' ok (by omega) (by simpa using ho) (by simpa using hok) hnw d hd

/-- What an operation does to slots and objects. -/
theorem OpS.shape2 (h : OpS P T ops o s s') : s'.n = s.n ∧ (∀ d, o.dst = some d → s'.sl = (d, avh s') :: s.sl) ∧ (o.dst = none → s'.sl = s.sl) ∧
    ∃ wr : Option (Nat × AO), s'.hp = wr.toList ++ s.hp ∧ ∀ p, wr = some p → (isNw o.op = true ∧ o.dst = some p.1 ∧ lk s.hp p.1 = none) ∨ (isSt o.op = true ∧ p.1 ∈ idsR s o.op ∧ (lk s.hp p.1).isSome = true ∧ rowN (some p.2) = rowN (lk s.hp p.1)) := by
  have put : ∀ av, (s.put o.dst av).n = s.n ∧ (∀ d, o.dst = some d → (s.put o.dst av).sl = (d, avh (s.put o.dst av)) :: s.sl) ∧ (o.dst = none → (s.put o.dst av).sl = s.sl) ∧
      ∃ wr : Option (Nat × AO), (s.put o.dst av).hp = wr.toList ++ s.hp ∧ ∀ p, wr = some p → (isNw o.op = true ∧ o.dst = some p.1 ∧ lk s.hp p.1 = none) ∨ (isSt o.op = true ∧ p.1 ∈ idsR s o.op ∧ (lk s.hp p.1).isSome = true ∧ rowN (some p.2) = rowN (lk s.hp p.1)) := by
    intro av
    cases hd : o.dst with
    | none => exact ⟨rfl, fun d h => (by cases h), fun _ => rfl, none, rfl, fun p h => (by cases h)⟩
    | some d => exact ⟨rfl, fun d' h => (by cases h; rfl), fun h => (by cases h), none, rfl, fun p h => (by cases h)⟩
  cases h with
  | V av h hg hk => exact put av
  | B av h hg hk => exact put av
  | X av h hg hk => exact put av
  | G hg hk => exact put .dead
  | C h hc hf ha hg hk => exact put _
  | N ob h d hdst hfr hg hk =>
    refine ⟨rfl, fun d' h' => (by rw [hdst] at h'; cases h'; rfl), fun h' => (by rw [hdst] at h'; cases h'), some (d, ob), rfl, fun p hp => Or.inl ?_⟩
    cases hp
    exact ⟨evN_nw h, hdst, hfr⟩
  | S id ob h hdst hg =>
    refine ⟨rfl, fun d' h' => (by rw [hdst] at h'; cases h'), fun _ => rfl, some (id, ob), rfl, fun p hp => Or.inr ?_⟩
    cases hp
    exact evS_id h

open Classical in
/-- The objects, when the operations of D are done. -/
noncomputable def hpD (hp : List (Nat × AO)) (wr : Nat → Option (Nat × AO)) (D : Nat → Prop) : Nat → List (Nat × AO)
  | 0 => hp
  | m + 1 => if D m then (wr m).toList ++ hpD hp wr D m else hpD hp wr D m
theorem hpD_pos {hp : List (Nat × AO)} {wr : Nat → Option (Nat × AO)} {D : Nat → Prop} {m : Nat} (h : D m) : hpD hp wr D (m + 1) = (wr m).toList ++ hpD hp wr D m := if_pos h
theorem hpD_neg {hp : List (Nat × AO)} {wr : Nat → Option (Nat × AO)} {D : Nat → Prop} {m : Nat} (h : ¬ D m) : hpD hp wr D (m + 1) = hpD hp wr D m := if_neg h
theorem hpD_congr {hp : List (Nat × AO)} {wr : Nat → Option (Nat × AO)} {D D' : Nat → Prop} : ∀ {m : Nat}, (∀ k, k < m → (D k ↔ D' k)) → hpD hp wr D m = hpD hp wr D' m
  | 0, _ => rfl
  | m + 1, h => by
    have ih := hpD_congr (hp := hp) (wr := wr) (m := m) fun k hk => h k (by omega)
    by_cases e : D m
    · rw [hpD_pos e, hpD_pos ((h m (by omega)).1 e), ih]
    · rw [hpD_neg e, hpD_neg (fun e' => e ((h m (by omega)).2 e')), ih]
theorem hpD_lk {hp : List (Nat × AO)} {wr : Nat → Option (Nat × AO)} {D D' : Nat → Prop} {id : Nat} : ∀ {m : Nat}, (∀ k p, k < m → wr k = some p → p.1 = id → (D k ↔ D' k)) → lk (hpD hp wr D m) id = lk (hpD hp wr D' m) id
  | 0, _ => rfl
  | m + 1, h => by
    have ih := hpD_lk (hp := hp) (wr := wr) (m := m) fun k p hk => h k p (by omega)
    have one : ∀ (E : Nat → Prop), (∀ p, wr m = some p → p.1 ≠ id) → lk (hpD hp wr E (m + 1)) id = lk (hpD hp wr E m) id := by
      intro E hne
      by_cases e : E m
      · rw [hpD_pos e]
        cases hw : wr m with
        | none => rfl
        | some p =>
          obtain ⟨a, b⟩ := p
          show lk ((a, b) :: hpD hp wr E m) id = _
          rw [lk_cons, if_neg (hne (a, b) hw)]
      · rw [hpD_neg e]
    by_cases hw : ∃ p, wr m = some p ∧ p.1 = id
    · obtain ⟨p, hp1, hp2⟩ := hw
      have hiff := h m p (by omega) hp1 hp2
      by_cases e : D m
      · rw [hpD_pos e, hpD_pos (hiff.1 e), hp1]
        show lk ((p.1, p.2) :: _) id = lk ((p.1, p.2) :: _) id
        rw [lk_cons, lk_cons, if_pos hp2, if_pos hp2]
      · rw [hpD_neg e, hpD_neg (fun e' => e (hiff.2 e')), ih]
    · have hne : ∀ p, wr m = some p → p.1 ≠ id := fun p h1 h2 => hw ⟨p, h1, h2⟩
      rw [one D hne, one D' hne, ih]
theorem Core.lkc {ρ : Rho} {B0 : BS} {w0 w : World} {hp hp' : List (Nat × AO)} (h : Core ρ B0 w0 w hp) (hl : ∀ id, (∃ v, ρ id = some v) → lk hp id = lk hp' id) : Core ρ B0 w0 w hp' :=
  ⟨h.bel, h.b0, fun id v hv => by rw [← hl id ⟨v, hv⟩]; exact h.obj id v hv, h.dist⟩

/-- The states on the way. -/
structure WayS (ops : Array Oper) (l : List Oper) (n : Nat) (st : Nat → AS) (wr : Nat → Option (Nat × AO)) : Prop where
  nn : ∀ i : Nat, i ≤ n → (st i).n = (st 0).n
  at1 : ∀ i, i ≤ n → ∀ t k o, k < i → l[k]? = some o → o.dst = some t → lk (st i).sl t = some (avh (st (k + 1)))
  at2 : ∀ i, i ≤ n → ∀ t, (∀ k o, k < i → l[k]? = some o → o.dst ≠ some t) → lk (st i).sl t = lk (st 0).sl t
  hp : ∀ i, i ≤ n → hpD (st 0).hp wr (fun k => k < i) n = (st i).hp
  wrs : ∀ i o p, i < n → l[i]? = some o → wr i = some p → (isNw o.op = true ∧ o.dst = some p.1 ∧ lk (st i).hp p.1 = none) ∨ (isSt o.op = true ∧ p.1 ∈ idO st i o ∧ (lk (st i).hp p.1).isSome = true ∧ rowN (some p.2) = rowN (lk (st i).hp p.1))
  up : ∀ i, i < n → (st (i + 1)).hp = (wr i).toList ++ (st i).hp
  grow : ∀ i, i ≤ n → ∀ id, (lk (st 0).hp id).isSome = true → (lk (st i).hp id).isSome = true

theorem wayS {l : List Oper} {n : Nat} {st : Nat → AS} (hl : n ≤ l.length) (hone : ∀ i k oi ok d, i < n → k < n → l[i]? = some oi → l[k]? = some ok → k ≠ i → ok.dst = some d → oi.dst ≠ some d) (h : ∀ i o, i < n → l[i]? = some o → OpS P T ops o (st i) (st (i + 1))) : ∃ wr, WayS ops l n st wr := by
  have step : ∀ i, ∃ wr : Option (Nat × AO), i < n → (st (i + 1)).n = (st i).n ∧ (∀ o, l[i]? = some o → (∀ d, o.dst = some d → (st (i + 1)).sl = (d, avh (st (i + 1))) :: (st i).sl) ∧ (o.dst = none → (st (i + 1)).sl = (st i).sl)) ∧ (st (i + 1)).hp = wr.toList ++ (st i).hp ∧
      ∀ o p, l[i]? = some o → wr = some p → (isNw o.op = true ∧ o.dst = some p.1 ∧ lk (st i).hp p.1 = none) ∨ (isSt o.op = true ∧ p.1 ∈ idO st i o ∧ (lk (st i).hp p.1).isSome = true ∧ rowN (some p.2) = rowN (lk (st i).hp p.1)) := by
    intro i
    by_cases hi : i < n
    · have ho : l[i]? = some (l[i]'(by omega)) := by simp
      obtain ⟨h1, h2, h3, wr, h4, h5⟩ := (OpS.shape2 (h i _ hi ho))
      refine ⟨wr, fun _ => ⟨h1, fun o ho' => ?_, h4, fun o p ho' hp => ?_⟩⟩
      · rw [ho] at ho'; cases ho'; exact ⟨h2, h3⟩
      · rw [ho] at ho'; cases ho'; exact h5 p hp
    · exact ⟨none, fun h => absurd h hi⟩
  obtain ⟨wr, hw⟩ := Classical.skolem.1 step
  have up : ∀ i, i < n → (st (i + 1)).hp = (wr i).toList ++ (st i).hp := fun i hi => (hw i hi).2.2.1
  have hat : ∀ i, i ≤ n → ∀ t, (∀ k o, k < i → l[k]? = some o → o.dst = some t → lk (st i).sl t = some (avh (st (k + 1)))) ∧ ((∀ k o, k < i → l[k]? = some o → o.dst ≠ some t) → lk (st i).sl t = lk (st 0).sl t) := by
    intro i
    induction i with
    | zero => intro _ t; exact ⟨fun k o hk => absurd hk (Nat.not_lt_zero _), fun _ => rfl⟩
    | succ i ih =>
      intro hi t
      obtain ⟨ih1, ih2⟩ := ih (by omega) t
      have ho : l[i]? = some (l[i]'(by omega)) := by simp
      obtain ⟨hs1, hs2⟩ := (hw i (by omega)).2.1 _ ho
      cases hd : (l[i]'(by omega)).dst with
      | none =>
        rw [hs2 hd]
        refine ⟨fun k o hk hko hkd => ?_, fun hno => ih2 fun k o hk hko => hno k o (by omega) hko⟩
        by_cases hki : k = i
        · subst hki; rw [ho] at hko; cases hko; rw [hd] at hkd; cases hkd
        · exact ih1 k o (by omega) hko hkd
      | some d =>
        rw [hs1 d hd, lk_cons]
        refine ⟨fun k o hk hko hkd => ?_, fun hno => ?_⟩
        · by_cases hki : k = i
          · subst hki; rw [ho] at hko; cases hko; rw [hd] at hkd; cases hkd; rw [if_pos rfl]
          · rw [if_neg (fun e => hone i k _ o t (by omega) (by omega) ho hko hki hkd (by rw [hd, e]))]
            exact ih1 k o (by omega) hko hkd
        · rw [if_neg (fun e => hno i _ (by omega) ho (by rw [hd, e]))]
          exact ih2 (fun k o hk hko => hno k o (by omega) hko)
  have hp1 : ∀ i, i ≤ n → ∀ m, m ≤ n → hpD (st 0).hp wr (fun k => k < i) m = (st (min i m)).hp := by
    intro i hi m
    induction m with
    | zero => intro _; rw [Nat.min_zero]; rfl
    | succ m ih =>
      intro hm
      by_cases e : m < i
      · rw [hpD_pos (D := fun k => k < i) e, ih (by omega), Nat.min_eq_right (by omega), Nat.min_eq_right (by omega), up m (by omega)]
      · rw [hpD_neg (D := fun k => k < i) e, ih (by omega), Nat.min_eq_left (by omega), Nat.min_eq_left (by omega)]
  refine ⟨wr, ⟨fun i => ?_, fun i hi t k o => (hat i hi t).1 k o, fun i hi t => (hat i hi t).2, fun i hi => by rw [hp1 i hi n (Nat.le_refl _), Nat.min_eq_left hi], fun i o p hi ho hp => (hw i hi).2.2.2 o p ho hp, up, fun i => ?_⟩⟩
  · induction i with
    | zero => intro _; rfl
    | succ i ih => intro hi; rw [(hw i (by omega)).1, ih (by omega)]
  · induction i with
    | zero => intro _ id h; exact h
    | succ i ih =>
      intro hi id h
      rw [up i (by omega)]
      cases hwi : wr i with
      | none => exact ih (by omega) id h
      | some p =>
        show (lk ((p.1, p.2) :: (st i).hp) id).isSome = true
        rw [lk_cons]
        split
        · rfl
        · exact ih (by omega) id h

theorem WayS.len {l : List Oper} {n : Nat} {st : Nat → AS} {wr : Nat → Option (Nat × AO)} (hw : WayS ops l n st wr) (hl : n ≤ l.length) {id j : Nat} (hj : (lk (st j).hp id).isSome = true) : ∀ k, j ≤ k → k ≤ n → (lk (st k).hp id).isSome = true ∧ rowN (lk (st k).hp id) = rowN (lk (st j).hp id) := by
  intro k hjk
  induction hjk with
  | refl => exact fun _ => ⟨hj, rfl⟩
  | @step k _ ih =>
    intro hk
    obtain ⟨h1, h2⟩ := ih (by omega)
    have ho : l[k]? = some (l[k]'(by omega)) := by simp
    rw [hw.up k (by omega)]
    cases hwr : wr k with
    | none => exact ⟨h1, h2⟩
    | some p =>
      show (lk ((p.1, p.2) :: (st k).hp) id).isSome = true ∧ rowN (lk ((p.1, p.2) :: (st k).hp) id) = _
      rw [lk_cons]
      by_cases e : p.1 = id
      · rw [if_pos e]
        refine ⟨rfl, ?_⟩
        rcases hw.wrs k _ p (by omega) ho hwr with ⟨_, _, h3⟩ | ⟨_, _, _, h4⟩
        · rw [e] at h3; rw [h3] at h1; cases h1
        · rw [h4, e, h2]
      · rw [if_neg e]; exact ⟨h1, h2⟩
theorem WayS.lenD {l : List Oper} {n : Nat} {st : Nat → AS} {wr : Nat → Option (Nat × AO)} (hw : WayS ops l n st wr) {id : Nat} {D : Nat → Prop} {ob : AO} : ∀ m, m ≤ n → lk (hpD (st 0).hp wr D m) id = some ob → ∃ j, j ≤ n ∧ (lk (st j).hp id).isSome = true ∧ rowN (some ob) = rowN (lk (st j).hp id)
  | 0, _, h => ⟨0, Nat.zero_le _, by rw [show lk (st 0).hp id = some ob from h]; rfl, by rw [show lk (st 0).hp id = some ob from h]⟩
  | m + 1, hm, h => by
    by_cases e : D m
    · rw [hpD_pos e] at h
      cases hwr : wr m with
      | none => rw [hwr] at h; exact WayS.lenD hw m (by omega) h
      | some p =>
        rw [hwr] at h
        have h' : lk ((p.1, p.2) :: hpD (st 0).hp wr D m) id = some ob := h
        rw [lk_cons] at h'
        by_cases e2 : p.1 = id
        · rw [if_pos e2] at h'
          have h3 : lk (st (m + 1)).hp id = some ob := by
            rw [hw.up m (by omega), hwr]
            show lk ((p.1, p.2) :: (st m).hp) id = some ob
            rw [lk_cons, if_pos e2]; exact h'
          exact ⟨m + 1, hm, by rw [h3]; rfl, by rw [h3]⟩
        · rw [if_neg e2] at h'; exact WayS.lenD hw m (by omega) h'
    · rw [hpD_neg e] at h; exact WayS.lenD hw m (by omega) h

/-- What holds when the operations of D are done. -/
def JS (l : List Oper) (n : Nat) (st : Nat → AS) (wr : Nat → Option (Nat × AO)) (B0 : BS) (w0 : World) (a0 : Act) (D : Nat → Prop) (vs : Nat → Value) (w : World) : Prop :=
  ∃ ρ, Core ρ B0 w0 w (hpD (st 0).hp wr D n) ∧ (∀ id v, ρ id = some v → (lk (st 0).hp id).isSome = true ∨ ∃ k o, k < n ∧ D k ∧ l[k]? = some o ∧ o.dst = some id) ∧
    (∀ k p, k < n → D k → wr k = some p → ∃ v, ρ p.1 = some v) ∧
    (∀ t av, lk (st 0).sl t = some av → (∀ k o, k < n → l[k]? = some o → D k → o.dst ≠ some t) → ∃ v, a0.tmps[t]? = some v ∧ AR ρ (Bd ρ B0) w av v) ∧ (∀ k o d, k < n → D k → l[k]? = some o → o.dst = some d → AR ρ (Bd ρ B0) w (avh (st (k + 1))) (vs k))

theorem JS.congr {l : List Oper} {n : Nat} {st : Nat → AS} {wr : Nat → Option (Nat × AO)} {B0 : BS} {w0 : World} {a0 : Act} (D D' : Nat → Prop) (vs vs' : Nat → Value) (w : World) (h : JS l n st wr B0 w0 a0 D vs w) (hD : ∀ k, k < n → (D k ↔ D' k)) (hv : ∀ k, k < n → D k → vs k = vs' k) : JS l n st wr B0 w0 a0 D' vs' w := by
  obtain ⟨ρ, h1, h2, h5, h3, h4⟩ := h
  refine ⟨ρ, hpD_congr hD ▸ h1, fun id v h => ?_, fun k p hk hDk => h5 k p hk ((hD k hk).2 hDk), fun t av ht hno => h3 t av ht (fun k o hk ho hDk => hno k o hk ho ((hD k hk).1 hDk)), fun k o d hk hDk ho hd => ?_⟩
  · rcases h2 id v h with h | ⟨k, o, hk, hDk, h⟩
    · exact Or.inl h
    · exact Or.inr ⟨k, o, hk, (hD k hk).1 hDk, h⟩
  · rw [← hv k hk ((hD k hk).2 hDk)]
    exact h4 k o d hk ((hD k hk).2 hDk) ho hd

/-- One more value (if it goes anywhere); the objects' values are the same ones. -/
theorem JS.same {l : List Oper} {n : Nat} {st : Nat → AS} {wr : Nat → Option (Nat × AO)} {B0 : BS} {w0 : World} {a0 : Act} {D : Nat → Prop} {vs : Nat → Value} {w w' : World} {i : Nat} {v : Value} {ρ : Rho} {oi : Oper} (hoi : l[i]? = some oi) (hb : Keep (Bd ρ B0) w w') (h1 : Core ρ B0 w0 w' (hpD (st 0).hp wr (andI D i) n))
    (h2 : ∀ id v, ρ id = some v → (lk (st 0).hp id).isSome = true ∨ ∃ k o, k < n ∧ D k ∧ l[k]? = some o ∧ o.dst = some id)
    (h5 : ∀ k p, k < n → D k → wr k = some p → ∃ v, ρ p.1 = some v) (h6 : ∀ p, wr i = some p → ∃ v, ρ p.1 = some v)
    (h3 : ∀ t av, lk (st 0).sl t = some av → (∀ k o, k < n → l[k]? = some o → D k → o.dst ≠ some t) → ∃ v, a0.tmps[t]? = some v ∧ AR ρ (Bd ρ B0) w av v)
    (h4 : ∀ k o d, k < n → D k → l[k]? = some o → o.dst = some d → AR ρ (Bd ρ B0) w (avh (st (k + 1))) (vs k)) (hv : ∀ d, oi.dst = some d → AR ρ (Bd ρ B0) w' (avh (st (i + 1))) v) (hni : ¬ D i) : JS l n st wr B0 w0 a0 (andI D i) (setI vs i v) w' := by
  have mvv : ∀ {av : AV} {c : Value}, AR ρ (Bd ρ B0) w av c → AR ρ (Bd ρ B0) w' av c := fun h => AR.mv hb (fun _ _ h => h) (fun _ _ => rfl) h
  refine ⟨ρ, h1, fun id u h => ?_, fun k p hk hDk hp => ?_, fun t av ht hno => ?_, fun k o d hk hDk ho hd => ?_⟩
  · rcases h2 id u h with h | ⟨k, o, hk, hDk, h⟩
    · exact Or.inl h
    · exact Or.inr ⟨k, o, hk, Or.inl hDk, h⟩
  · rcases hDk with hDk | rfl
    · exact h5 k p hk hDk hp
    · exact h6 p hp
  · obtain ⟨u, h7, h8⟩ := h3 t av ht (fun k o hk ho hDk => hno k o hk ho (Or.inl hDk))
    exact ⟨u, h7, mvv h8⟩
  · unfold setI
    by_cases e : k = i
    · subst e
      rw [hoi] at ho; cases ho
      rw [if_pos rfl]; exact hv d hd
    · rw [if_neg e]
      rcases hDk with hDk | hDk
      · exact mvv (h4 k o d hk hDk ho hd)
      · exact absurd hDk e

set_option maxHeartbeats 1000000 in
/-- A REGION THAT DRAWS, WITH STORES: n operations in the order of the text, each a value or a store; then the others one after another. -/
theorem cDrawS (hT : TOk P T) {id : Nat} {l : List Oper} (n : Nat) {s : AS} (hm : P.follows .mixedOrders = true) (hB : allB l.toArray n s.n = true) (h : ChS P T l.toArray (fun s1 => AL P l.toArray Q (l.drop n) s1) 0 [] (l.take n) s) : AW P (.region id l.toArray true) Q s := by
  rintro B0 w0 a0 w ⟨ρ0, hc0, hn0, hdf0, hs0⟩
  have hB' := hB
  simp only [allB, Bool.and_eq_true, decide_eq_true_eq, Bool.or_eq_true] at hB'
  obtain ⟨⟨⟨⟨hsel, hreg⟩, hnle⟩, _⟩, _⟩ := hB'
  have hr := regB_ok hreg
  have hnl : n ≤ l.length := by simpa using hnle
  obtain ⟨st, hst0, kk, hop0, _, _, hcf0, hnw0⟩ := h.st
  have hlen : (l.take n).length = n := by simp; omega
  rw [hlen] at kk
  have htk : ∀ {i : Nat} {o : Oper}, i < n → l[i]? = some o → (l.take n)[i]? = some o := fun hi ho => by rw [List.getElem?_take, if_pos hi]; exact ho
  have hop : ∀ i o, i < n → l[i]? = some o → OpS P T l.toArray o (st i) (st (i + 1)) := fun i o hi ho => hop0 i o (htk hi ho)
  have hcf : ∀ i o k ok, k < i → i < n → l[i]? = some o → l[k]? = some ok → (isSt o.op = true ∨ isSt ok.op = true) → ∀ id ∈ idO st i o, id ∈ idO st k ok → reach l.toArray 6 o k = true := fun i o k ok hk hi ho hok hs id h1 h2 => by
    have := hcf0 i o k ok hk (htk hi ho) (htk (by omega) hok) hs id h1 h2
    rwa [Nat.zero_add] at this
  have hnw : ∀ i o k ok, k < i → i < n → l[i]? = some o → l[k]? = some ok → isNw o.op = true → ∀ d, o.dst = some d → ¬ d ∈ idO st k ok := fun i o k ok hk hi ho hok => hnw0 i o k ok hk (htk hi ho) (htk (by omega) hok)
  have hone : ∀ i k oi ok d, i < n → k < n → l[i]? = some oi → l[k]? = some ok → k ≠ i → ok.dst = some d → oi.dst ≠ some d := fun i k oi ok d hi hk hoi hok => hr.one i k oi ok d hi hk (by simpa using hoi) (by simpa using hok)
  obtain ⟨wr, hway⟩ := wayS hnl hone hop
  subst hst0
  refine wp_region_J (J := JS l n st wr B0 w0 a0) n (st 0).n hm hn0 hdf0 hB (fun D D' vs vs' w h => JS.congr D D' vs vs' w h) ?_ ?_ ?_
  · have hK : Keep (Bd ρ0 B0) w w.drew := ⟨Nat.le_refl _, fun _ _ _ => rfl⟩
    have hz : hpD (st 0).hp wr (fun _ => False) n = (st 0).hp := (hpD_congr (D' := fun k => k < 0) fun k _ => by simp).trans (hway.hp 0 (Nat.zero_le _))
    refine ⟨ρ0, ⟨hc0.bel.drew, hc0.b0, fun id v h => ?_, hc0.dist⟩, fun id v h => ?_, fun k p _ h => h.elim, fun t av ht _ => ?_, fun k o d _ h => h.elim⟩
    · obtain ⟨ob, h1, h2⟩ := hc0.obj id v h
      exact ⟨ob, by rw [hz]; exact h1, h2.mv hK (fun _ _ hb => hb) (fun _ _ => rfl)⟩
    · obtain ⟨ob, h1, h2⟩ := hc0.obj id v h
      exact Or.inl (by rw [h1]; rfl)
    · obtain ⟨v, h1, h2⟩ := hs0 t av ht
      exact ⟨v, h1, AR.mv hK (fun _ _ hb => hb) (fun _ _ => rfl) h2⟩
  · intro i o hi ho D vs w' hni hwait hclo hJ
    have ho' : l[i]? = some o := by simpa using ho
    have hA := puts_inv (a0 := a0) (ops := l.toArray) rfl hr hn0 hnl vs i (Nat.le_of_lt hi)
    obtain ⟨ρ, hc, h2, h5, h3, h4⟩ := hJ
    have hSl : Slots ρ (Bd ρ B0) w' (pickS (st i).sl (o.looksAt l.toArray)) (putsR (l.take i) 0 a0 vs) := by
      intro t av ht
      obtain ⟨hts, hlk⟩ := pickS_mem _ t av ht
      by_cases hex : ∃ k ok, k < i ∧ l[k]? = some ok ∧ ok.dst = some t
      · obtain ⟨k, ok, hk, hok, hkd⟩ := hex
        have hok' : l.toArray[k]? = some ok := by simpa using hok
        rw [hway.at1 i (Nat.le_of_lt hi) t k ok hk hok hkd] at hlk
        cases hlk
        refine ⟨vs k, hA.wr k ok t (by omega) hok' hk hkd, h4 k ok t (by omega) ?_ hok hkd⟩
        rcases hr.look i k o ok t hi (by omega) ho hok' (by omega) hkd hts with ⟨_, h⟩ | ⟨h, _⟩
        · exact hwait k h
        · omega
      · have hno : ∀ k ok, k < i → l[k]? = some ok → ok.dst ≠ some t := fun k ok hk hok hkd => hex ⟨k, ok, hk, hok, hkd⟩
        rw [hway.at2 i (Nat.le_of_lt hi) t hno] at hlk
        obtain ⟨v, h7, h8⟩ := h3 t av hlk (fun k ok hk hok hDk hkd => by
          have hok' : l.toArray[k]? = some ok := by simpa using hok
          by_cases hki : k = i
          · subst hki; exact hni hDk
          · rcases hr.look i k o ok t hi hk ho hok' hki hkd hts with ⟨h, _⟩ | ⟨_, h⟩
            · exact hno k ok h hok hkd
            · exact hni (hclo k ok hok' hDk i h))
        refine ⟨v, ?_, h8⟩
        rw [hA.no t (fun k ok hk hok hki => hno k ok hki (by simpa using hok))]
        exact h7
    -- the objects that it speaks of are as the text has them
    have hidρ0 : ∀ id ∈ idsOf (st i) o.op.operands.toList, ∃ v, ρ id = some v := by
      intro id hid
      obtain ⟨x, hx, hg⟩ := List.mem_filterMap.1 hid
      cases hgx : geto (st i) x with
      | none => rw [hgx] at hg; cases hg
      | some av =>
        rw [hgx] at hg
        have hav : avId av = some id := hg
        cases x with
        | tmp t =>
          have hm : t ∈ o.looksAt l.toArray := List.mem_append_left _ (List.mem_filterMap.2 ⟨.tmp t, by simpa using hx, rfl⟩)
          obtain ⟨v, _, h8⟩ := hSl t av (by rw [lk_pickS _ t hm]; exact hgx)
          exact avId_R hav h8
        | const v => cases v <;> simp only [geto, Option.some.injEq, reduceCtorEq] at hgx <;> (subst hgx; cases hav)
        | func f => simp only [geto, Option.some.injEq] at hgx; subst hgx; cases hav
        | global g => simp [geto] at hgx
    have hidρ : ∀ id ∈ idO st i o, ∃ v, ρ id = some v := fun id hid => hidρ0 id (idsR_of hid)
    have hiff : ∀ id ∈ idO st i o, ∀ k p, k < n → wr k = some p → p.1 = id → (D k ↔ k < i) := by
      intro id hid k p hk hp hpid
      have hok : l[k]? = some (l[k]'(by omega)) := by simp
      have hok' : l.toArray[k]? = some (l[k]'(by omega)) := by simp
      rcases hway.wrs k _ p hk hok hp with ⟨hN, hdk, hnone⟩ | ⟨hS, hmem, _⟩
      · rw [hpid] at hdk hnone
        obtain ⟨v, hv⟩ := hidρ id hid
        have hDk : D k := by
          rcases h2 id v hv with h | ⟨k', o', hk', hDk', ho'', hd'⟩
          · have := hway.grow k (Nat.le_of_lt hk) id h
            rw [hnone] at this; cases this
          · by_cases e : k' = k
            · subst e; exact hDk'
            · exact absurd hdk (hone k k' _ o' id hk hk' hok ho'' e hd')
        refine ⟨fun _ => ?_, fun _ => hDk⟩
        rcases Nat.lt_trichotomy k i with h | h | h
        · exact h
        · subst h; exact absurd hDk hni
        · exact absurd hid (hnw k _ i o h hk hok ho' hN id hdk)
      · rw [hpid] at hmem
        rcases Nat.lt_trichotomy k i with h | h | h
        · exact ⟨fun _ => h, fun _ => reach_ok hclo 6 o k hwait (hcf i o k _ h hi ho' hok (Or.inr hS) id hid hmem)⟩
        · subst h; exact ⟨fun h => absurd h hni, fun h => absurd h (Nat.lt_irrefl _)⟩
        · exact ⟨fun hDk => absurd (reach_ok hclo 6 _ i (hclo k _ hok' hDk) (hcf k _ i o h hk hok ho' (Or.inl hS) id hmem hid)) hni, fun h' => by omega⟩
    have hlkD : ∀ id ∈ idO st i o, lk (st i).hp id = lk (hpD (st 0).hp wr D n) id := by
      intro id hid
      rw [← hway.hp i (Nat.le_of_lt hi)]
      exact (hpD_lk fun k p hk hp hpid => hiff id hid k p hk hp hpid).symm
    let s2 : AS := ⟨(st i).n, pickS (st i).sl (o.looksAt l.toArray), hpD (st 0).hp wr D n⟩
    have hget : ∀ x ∈ o.op.operands, geto (st i) x = geto s2 x := by
      intro x hx
      cases x with
      | tmp t =>
        have hm : t ∈ o.looksAt l.toArray := List.mem_append_left _ (List.mem_filterMap.2 ⟨.tmp t, by simpa using hx, rfl⟩)
        exact (lk_pickS _ t hm).symm
      | const v => cases v <;> rfl
      | _ => rfl
    have hg' : gst l.toArray (st i) o = gst l.toArray s2 o := gst_congr (fun t ht => (lk_pickS _ t ht).symm)
    have hAd : (putsR (l.take i) 0 a0 vs).defers = [] := hA.defs.trans hdf0
    have hdef : ∀ v, ((putsR (l.take i) 0 a0 vs).put o.dst v).defers = [] := fun v => by cases hd : o.dst <;> exact hAd
    have hval : ∀ v d, o.dst = some d → Am.valOf o ((putsR (l.take i) 0 a0 vs).put o.dst v) = v := fun v d hd => Am.valOf_put hd (by rw [hA.size, hn0]; exact hr.dst i o d hi ho hd)
    have hO := hop i o hi ho'
    have hsh := OpS.shape2 hO
    have hwri : ∀ {hp'}, (st (i + 1)).hp = hp' → hp' = (st i).hp → wr i = none := by
      intro hp' e1 e2
      have := hway.up i hi
      rw [e1, e2] at this
      cases hw : wr i with
      | none => rfl
      | some p => rw [hw] at this; have h9 := congrArg List.length this; simp at h9
    have hnone : wr i = none → Core ρ B0 w0 w' (hpD (st 0).hp wr (andI D i) n) := fun hw => Core.lkc hc fun id _ => hpD_lk fun k p hk hp hpid => by
      unfold andI
      constructor
      · exact Or.inl
      · rintro (h | rfl)
        · exact h
        · rw [hw] at hp; cases hp
    have fin : ∀ {w2 : World} {v : Value} {av : AV}, st (i + 1) = (st i).put o.dst av → Below w'.heap.size w' w2 → AR ρ (Bd ρ B0) w2 av v → JS l n st wr B0 w0 a0 (andI D i) (setI vs i (Am.valOf o ((putsR (l.take i) 0 a0 vs).put o.dst v))) w2 := by
      intro w2 v av he hb hv
      have hw : wr i = none := hwri (hp' := ((st i).put o.dst av).hp) (by rw [he]) (by cases o.dst <;> rfl)
      refine JS.same ho' (.of_below hb) ((hnone hw).below hb) h2 h5 (fun p hp => by rw [hw] at hp; cases hp) h3 h4 (fun d hd => ?_) hni
      rw [hval v d hd]
      have : avh (st (i + 1)) = av := by rw [he, hd]; rfl
      rw [this]; exact hv
    obtain ⟨s3, hs3⟩ : ∃ s3, s3 = st (i + 1) := ⟨_, rfl⟩
    rw [← hs3] at hO
    cases hO with
    | V av h hg hk =>
      rw [hg'] at hg
      replace h : evV T s2 o.op = some av := by
        cases hln : isLen o.op with
        | false => rwa [evV_congr2 (T := T) (op := o.op) (s := st i) (s' := s2) hln hget hlkD] at h
        | true =>
          refine evV_len hln hget (fun id hid n0 hn0' => ?_) h
          obtain ⟨v0, hv0⟩ := hidρ0 id hid
          obtain ⟨ob, ho1, _⟩ := hc.obj id v0 hv0
          show rowN (lk (hpD (st 0).hp wr D n) id) = some n0
          rw [ho1]
          obtain ⟨j, hj, hj1, hj2⟩ := hway.lenD n (Nat.le_refl _) ho1
          have hi1 : (lk (st i).hp id).isSome = true := by
            obtain ⟨e1, s1, l1, h1⟩ := rowN_of hn0'
            rw [h1]; rfl
          rw [hj2, ← hn0']
          rcases Nat.le_total j i with hji | hji
          · exact ((hway.len hnl hj1 i hji (Nat.le_of_lt hi)).2).symm
          · exact (hway.len hnl hi1 j hji hj).2
      obtain ⟨v, hrun, hv⟩ := evV_ok (s := s2) hT hSl hc (fun _ _ h => h) h
      exact ifW_pos (gst_ok (s := s2) hg hSl) (wp_value' (a := a0) hrun ⟨hdef v, fin hs3.symm (Below.refl _ _) hv⟩)
    | B av h hg hk =>
      rw [hg'] at hg
      rw [evB_congr (T := T) (op := o.op) (s := st i) (s' := s2) hget] at h
      obtain ⟨v, w2, hrun, hb, hv⟩ := evB_ok (s := s2) hT hSl hc h
      exact ifW_pos (gst_ok (s := s2) hg hSl) (wp_value' (a := a0) hrun ⟨hdef v, fin hs3.symm hb hv⟩)
    | X av h hg hk =>
      rw [hg'] at hg
      obtain ⟨v, hrun, hv⟩ := h ρ (Bd ρ B0) w' (putsR (l.take i) 0 a0 vs) (fun x hx av' hgx => geto_ok (s := s2) hSl ((hget x hx).symm.trans hgx))
      exact ifW_pos (gst_ok (s := s2) hg hSl) (wp_value' (a := a0) hrun ⟨hdef v, fin hs3.symm (Below.refl _ _) hv⟩)
    | G hg hk =>
      rw [hg'] at hg
      refine ifW_neg (gst_ok (s := s2) hg hSl) ?_
      have hw : wr i = none := hwri (hp' := ((st i).put o.dst .dead).hp) (by rw [← hs3]) (by cases o.dst <;> rfl)
      refine JS.same ho' (.of_below (Below.refl _ _)) (hnone hw) h2 h5 (fun p hp => by rw [hw] at hp; cases hp) h3 h4 (fun d hd => ?_) hni
      have : avh (st (i + 1)) = .dead := by rw [← hs3, hd]; rfl
      rw [this]; trivial
    | C h hcl hf ha hg hk =>
      rename_i c f cap ds res
      rw [hg'] at hg
      have hop' : o.op = .call c := by
        unfold callOf at hcl
        split at hcl
        · rename_i h; cases hcl; exact h
        · cases hcl
      have hgc : ∀ x ∈ c.operands, geto (st i) x = geto s2 x := fun x hx => hget x (by rw [hop']; exact hx)
      rw [fnOf_congr hgc] at hf
      rw [getds_congr _ (fun x hx => hgc x (Array.mem_append.2 (Or.inr (by simpa using hx))))] at ha
      obtain ⟨us, hus, hrun⟩ := run_call (s := s2) hSl hcl hf ha h.en
      refine ifW_pos (gst_ok (s := s2) hg hSl) ?_
      unfold Oper.wp
      rw [hrun]
      refine (h.go (Bd ρ B0) w' us hc.bdlt hus).mono ?_
      rintro e w2 ⟨v, rfl, hb, hv⟩
      exact ⟨hdef v, fin hs3.symm hb hv.lift⟩
    | S id ob h hdst hg =>
      rw [hg'] at hg
      obtain ⟨hst, hid, _⟩ := evS_id h
      rw [evS_congr2 (T := T) (op := o.op) (s := st i) (s' := s2) hget hlkD] at h
      obtain ⟨w2, hrun, hc2, hk2⟩ := evS_ok (s := s2) hT hSl hc h
      refine ifW_pos (gst_ok (s := s2) hg hSl) ?_
      unfold Oper.wp
      rw [hrun]
      refine ⟨hdef _, ?_⟩
      have hup := hway.up i hi
      rw [← hs3] at hup
      have hwi : wr i = some (id, ob) := by
        cases hw : wr i with
        | none =>
          rw [hw] at hup
          have h9 := congrArg List.length hup
          simp at h9
        | some p =>
          rw [hw] at hup
          have h9 : (id, ob) :: (st i).hp = p :: (st i).hp := hup
          exact congrArg some (List.cons.inj h9).1.symm
      have hcc : Core ρ B0 w0 w2 (hpD (st 0).hp wr (andI D i) n) := by
        refine Core.lkc hc2 fun id' _ => ?_
        show lk ((id, ob) :: hpD (st 0).hp wr D n) id' = _
        rw [lk_cons]
        by_cases e : id = id'
        · subst e
          rw [if_pos rfl]
          have e1 : lk (hpD (st 0).hp wr (andI D i) n) id = lk (hpD (st 0).hp wr (fun k => k < i + 1) n) id := hpD_lk fun k p hk hp hpid => by
            unfold andI
            rw [hiff id hid k p hk hp hpid]
            omega
          rw [e1, hway.hp (i + 1) (by omega), ← hs3]
          show some ob = lk ((id, ob) :: (st i).hp) id
          rw [lk_cons, if_pos rfl]
        · rw [if_neg e]
          refine hpD_lk fun k p hk hp hpid => ?_
          unfold andI
          constructor
          · exact Or.inl
          · rintro (h | rfl)
            · exact h
            · rw [hwi] at hp; cases hp; exact absurd hpid e
      exact JS.same ho' hk2 hcc h2 h5 (fun p hp => by rw [hwi] at hp; cases hp; exact hidρ id hid) h3 h4 (fun d hd => by rw [hdst] at hd; cases hd) hni
    | N ob h d hd hfr hg hk =>
      rw [hg'] at hg
      have hnwo := evN_nw h
      rw [evN_congr (T := T) (op := o.op) (s := st i) (s' := s2) hget] at h
      obtain ⟨v, w2, hrun, hb, hvb, hob⟩ := evN_ok (s := s2) hT hSl hc h
      have hup := hway.up i hi
      rw [← hs3] at hup
      have hwi : wr i = some (d, ob) := by
        cases hw : wr i with
        | none =>
          rw [hw] at hup
          have h9 := congrArg List.length hup
          simp [AS.mk'] at h9
        | some p =>
          rw [hw] at hup
          have h9 : (d, ob) :: (st i).hp = p :: (st i).hp := hup
          exact congrArg some (List.cons.inj h9).1.symm
      have h0none : (lk (st 0).hp d).isSome = false := by
        cases hq : (lk (st 0).hp d).isSome with
        | false => rfl
        | true => have := hway.grow i (Nat.le_of_lt hi) d hq; rw [hfr] at this; cases this
      have hρ : ρ d = none := by
        cases hq : ρ d with
        | none => rfl
        | some u =>
          rcases h2 d u hq with h7 | ⟨k, ok, hk', hDk, hok, hkd⟩
          · rw [h0none] at h7; cases h7
          · by_cases hki : k = i
            · subst hki; exact absurd hDk hni
            · exact absurd hd (hone i k o ok d hi hk' ho' hok hki hkd)
      have hO2 := hob (Bd (up ρ d v) B0) (up_new hρ hvb)
      have hdiff : ∀ k p, k < n → wr k = some p → p.1 = d → (andI D i k ↔ k < i + 1) := by
        intro k p hk' hp hpd
        have hok : l[k]? = some (l[k]'(by omega)) := by simp
        by_cases e : k = i
        · subst e; exact ⟨fun _ => by omega, fun _ => Or.inr rfl⟩
        · have hnD : ¬ D k := fun hDk => by
            obtain ⟨u, hu⟩ := h5 k p hk' hDk hp
            rw [hpd, hρ] at hu; cases hu
          refine ⟨fun h => ?_, fun h => ?_⟩
          · rcases h with h | h
            · exact absurd h hnD
            · exact absurd h e
          · exfalso
            rcases hway.wrs k _ p hk' hok hp with ⟨_, hdk, _⟩ | ⟨_, hmem, _⟩
            · rw [hpd] at hdk
              exact hone i k o _ d hi hk' ho' hok e hdk hd
            · rw [hpd] at hmem
              exact hnw i o k _ (by omega) hi ho' hok hnwo d hd hmem
      have hlast : lk (hpD (st 0).hp wr (andI D i) n) d = some ob := by
        rw [hpD_lk (D' := fun k => k < i + 1) hdiff, hway.hp (i + 1) (by omega), ← hs3]
        show lk ((d, ob) :: (st i).hp) d = some ob
        rw [lk_cons, if_pos rfl]
      have hoth : ∀ id', id' ≠ d → lk (hpD (st 0).hp wr D n) id' = lk (hpD (st 0).hp wr (andI D i) n) id' := fun id' hne => hpD_lk fun k p hk' hp hpid => by
        unfold andI
        constructor
        · exact Or.inl
        · rintro (h | rfl)
          · exact h
          · rw [hwi] at hp; cases hp; exact absurd hpid.symm hne
      have hc2 : Core (up ρ d v) B0 w0 w2 (hpD (st 0).hp wr (andI D i) n) := hc.new hρ hb hvb (fun k ob' hk' hne => by rw [← hoth k hne]; exact hk') hlast hO2
      refine ifW_pos (gst_ok (s := s2) hg hSl) (wp_value' (a := a0) hrun ⟨hdef v, ?_⟩)
      refine ⟨_, hc2, fun id u hu => ?_, fun k p hk' hDk hp => ?_, fun t av ht hno => ?_, fun k ok d' hk' hDk hok hd' => ?_⟩
      · unfold up at hu
        split at hu
        · rename_i e
          exact Or.inr ⟨i, o, hi, Or.inr rfl, ho', by rw [hd, e]⟩
        · rcases h2 id u hu with h7 | ⟨k, ok, hk', hDk, h7⟩
          · exact Or.inl h7
          · exact Or.inr ⟨k, ok, hk', Or.inl hDk, h7⟩
      · unfold up
        split
        · exact ⟨_, rfl⟩
        · rename_i hne
          rcases hDk with hDk | rfl
          · exact h5 k p hk' hDk hp
          · rw [hwi] at hp; cases hp; exact absurd rfl hne
      · obtain ⟨u, h7, h8⟩ := h3 t av ht (fun k o hk ho hDk => hno k o hk ho (Or.inl hDk))
        exact ⟨u, h7, h8.new hρ hb hvb⟩
      · unfold setI
        by_cases e : k = i
        · subst e
          rw [if_pos rfl, hval v d hd, ← hs3]
          exact AO.av_ok hO2 (by simp [up])
        · rw [if_neg e]
          rcases hDk with hDk | hDk
          · exact (h4 k ok d' hk' hDk hok hd').new hρ hb hvb
          · exact absurd hDk e
  · intro D vs w' hall hJ
    obtain ⟨ρ, hc, h2, h5, h3, h4⟩ := hJ
    have hA := puts_inv (a0 := a0) (ops := l.toArray) rfl hr hn0 hnl vs n (Nat.le_refl _)
    have hhp : hpD (st 0).hp wr D n = (st n).hp := by
      rw [← hway.hp n (Nat.le_refl _)]
      exact hpD_congr fun k hk => ⟨fun _ => hk, fun _ => hall k hk⟩
    rw [hhp] at hc
    refine kk B0 w0 _ w' ⟨ρ, hc, ?_, hA.defs.trans hdf0, fun t av ht => ?_⟩
    · rw [hA.size, hn0, hway.nn n (Nat.le_refl _)]
    · by_cases hex : ∃ k ok, k < n ∧ l[k]? = some ok ∧ ok.dst = some t
      · obtain ⟨k, ok, hk, hok, hkd⟩ := hex
        rw [hway.at1 n (Nat.le_refl _) t k ok hk hok hkd] at ht
        cases ht
        exact ⟨vs k, hA.wr k ok t hk (by simpa using hok) hk hkd, h4 k ok t hk (hall k hk) hok hkd⟩
      · have hno : ∀ k ok, k < n → l[k]? = some ok → ok.dst ≠ some t := fun k ok hk hok hkd => hex ⟨k, ok, hk, hok, hkd⟩
        rw [hway.at2 n (Nat.le_refl _) t hno] at ht
        obtain ⟨v, h7, h8⟩ := h3 t av ht (fun k o hk hok _ => hno k o hk hok)
        refine ⟨v, ?_, h8⟩
        rw [hA.no t (fun k o hk hok _ => hno k o hk (by simpa using hok))]
        exact h7
end
end Go.Proofs.Ytoagihianelhjaa.Ne

/-
  TEXTS OF THE PLAIN RECKONING, by the machine; laws of chapter 3.
-/
set_option linter.unusedVariables false
set_option linter.unusedSimpArgs false
namespace Go.Proofs.Ytoagihianelhjaa
open Go.RowKit

theorem half64 {n : Nat} (h : n ≤ 1000000000) : IntKind.i64.wrap (Int.tdiv (n : Int) 2) = ((n / 2 : Nat) : Int) := by
  rw [show Int.tdiv (n : Int) 2 = ((n / 2 : Nat) : Int) from rfl]; exact wr64 (by omega) (by omega)
theorem rn_bdL {K : Nat} {z : Int} {B : BS} {w : World} {cs : List Value} (h : LsR B w (rn K z) cs) : (digs4 z.natAbs).length ≤ K := by
  match cs, h with
  | [x, y], h =>
    obtain ⟨h1, _, _⟩ := h
    obtain ⟨a, n, c, rfl, hr, hK, _⟩ := dr_of h1
    exact digs4_le (dn_lt hr hK)
theorem rn_bd {K : Nat} {z : Int} {B : BS} {w : World} {vs : List Value} (h : DsR B w [.agg (rn K z)] vs) : (digs4 z.natAbs).length ≤ K := by
  match vs, h with
  | [v], h =>
    obtain ⟨⟨cs, rfl, hl⟩, _⟩ := h
    exact rn_bdL hl
theorem qn_bd {K : Nat} {q : Rat} {B : BS} {w : World} {vs : List Value} (h : DsR B w [.agg (qn K q)] vs) : (digs4 q.num.natAbs).length ≤ K ∧ (digs4 (q.den : Int).natAbs).length ≤ K := by
  match vs, h with
  | [v], h =>
    obtain ⟨⟨cs, rfl, hl⟩, _⟩ := h
    match cs, hl with
    | [x, y, u, v], h =>
      obtain ⟨h1, h2, h3, h4, _⟩ := h
      exact ⟨rn_bdL (cs := [x, y]) ⟨h1, h2, trivial⟩, rn_bdL (cs := [u, v]) ⟨h3, h4, trivial⟩⟩
theorem txt_le4 {z : Int} {K : Nat} (h : (digs4 z.natAbs).length ≤ K) : (txt z).size ≤ 4 * K + 2 := by
  have := dlen_4 z.natAbs
  unfold txt
  rw [size_mkS, txL_dg, List.length_append, dgL_len]
  have h1 : (if z < 0 then [45] else ([] : List Nat)).length ≤ 1 := by split <;> simp
  have h2 : (if z = 0 then 1 else dlen z.natAbs) ≤ 4 * K + 1 := by split <;> omega
  omega
theorem cmpZ_one {n : Nat} (h : n ≠ 1) : (cmpZ ((n : Nat) : Int) 1 == 0) = false := by
  refine beq_eq_false_iff_ne.2 fun e => ?_
  unfold cmpZ at e
  split at e
  · cases e
  · split at e
    · omega
    · cases e
set_option maxRecDepth 100000 in
set_option maxHeartbeats 4000000 in
theorem aRText {a : List Lf} {K : Nat} {z : Int} (ha : IsR a K z) (hK : K ≤ 100000 := by decide) : ACall Try.prog 10 [.agg a] (.d (.one (.v (.string (txt z))))) := by
  refine ACall.le (dl (DV.g ha) dl0) AV.le.rfl ?_
  refine ACall.fact (p := (digs4 z.natAbs).length ≤ K) (enters Try.func10 rfl rfl) (fun B w vs h => rn_bd h) (fun hB => ?_)
  refine acallN hTT 85 [.tmp 2] Try.func10 rfl rfl rfl rfl rfl ?_
  refine cSeq ?_
  refine cReg ?_
  refine mN hTT (.box 31 (rn K z)) rfl rfl rfl ?_
  refine mV hTT _ rfl ?_
  refine mNil ?_
  refine tN ?_
  refine cSeq ?_
  refine cSeq ?_
  by_cases hz : z = 0
  · skip
    refine cReg ?_
    refine mV hTT (.ptr 1 0) rfl ?_
    refine mV hTT (.d (.one (dn K z.natAbs))) rfl ?_
    refine mV hTT (.d (.one (.v (.int .i64 ((digs4 z.natAbs).length : Int))))) rfl ?_
    refine mV hTT (.d (.one (.v (.bool true)))) (evb (by rw [hz]; rfl)) ?_
    refine mNil ?_
    refine tN ?_
    refine cT rfl ?_
    refine cSeq ?_
    refine cReg ?_
    refine mV hTT _ rfl ?_
    refine mNil ?_
    refine tN ?_
    refine cRet ?_
    refine tR ?_
    exact rQ rfl (le_str (txt_0 hz))
  · skip
    have hdp : 1 ≤ dlen z.natAbs := dlen_pos (by omega)
    have hd4 := dlen_4 z.natAbs
    have hl1 : 1 ≤ (rvT z).length := by rw [rvT_len]; omega
    have hl2 : (rvT z).length ≤ 4 * K + 1 := by rw [rvT_len]; split <;> omega
    refine cReg ?_
    refine mV hTT (.ptr 1 0) rfl ?_
    refine mV hTT (.d (.one (dn K z.natAbs))) rfl ?_
    refine mV hTT (.d (.one (.v (.int .i64 ((digs4 z.natAbs).length : Int))))) rfl ?_
    refine mV hTT (.d (.one (.v (.bool false)))) (evb (beq_eq_false_iff_ne.2 fun e => by omega)) ?_
    refine mNil ?_
    refine tN ?_
    refine cF rfl ?_
    refine cSkip ?_
    refine tN ?_
    refine cSeq ?_
    refine cReg ?_
    refine mV hTT _ rfl ?_
    refine mNil ?_
    refine tN ?_
    refine cSeq ?_
    refine cSeq ?_
    refine cReg ?_
    refine mV hTT (.ptr 1 0) rfl ?_
    refine mV hTT (.d (.one (dn K z.natAbs))) rfl ?_
    refine mV hTT (.d (.one (.v (.int .i64 ((digs4 z.natAbs).length : Int))))) rfl ?_
    refine mV hTT _ rfl ?_
    refine mNil ?_
    refine tN ?_
    refine cBlock ?_
    refine AW.wk (wkNil 3 3 5 1 (fun _ _ => .v undef) rfl rfl) ?_
    refine cLoop (ι := Nat) (fun (i : Nat) => ⟨85, [(1, .ptr 1 0), (2, .d (.one (.v (.string (⟨#[]⟩))))), (3, .own 3), (14, .d (.one (.v (.int .i64 ((digs4 z.natAbs).length : Int))))), (15, .d (.one (.v (.int .i64 ((i : Nat) : Int)))))], [(1, .box 31 (rn K z)), (3, .row 5 1 (4 * i) (bel (fun i => 48 + z.natAbs / 10 ^ i % 10)))]⟩) (fun (i : Nat) => i ≤ (digs4 z.natAbs).length) (fun (i : Nat) => (digs4 z.natAbs).length - i) 0 (Nat.zero_le _) (wk (sl := [(1, .ptr 1 0), (2, .d (.one (.v (.string (⟨#[]⟩))))), (3, .own 3), (14, .d (.one (.v (.int .i64 ((digs4 z.natAbs).length : Int))))), (15, .d (.one (.v (.int .i64 ((0 : Nat) : Int)))))]) (hp := [(1, .box 31 (rn K z)), (3, .row 5 1 (4 * 0) (bel (fun i => 48 + z.natAbs / 10 ^ i % 10)))]) rfl ⟨hs rfl, hs rfl, hs rfl, hs rfl, hs' rfl (le_int rfl), trivial⟩ ⟨ho rfl, ho' rfl (leo_row0), trivial⟩ rfl) ?_
    rintro i hI
    have hi : i ≤ (digs4 z.natAbs).length := hI
    show AW Try.prog _ _ ⟨85, [(1, .ptr 1 0), (2, .d (.one (.v (.string (⟨#[]⟩))))), (3, .own 3), (14, .d (.one (.v (.int .i64 ((digs4 z.natAbs).length : Int))))), (15, .d (.one (.v (.int .i64 ((i : Nat) : Int)))))], [(1, .box 31 (rn K z)), (3, .row 5 1 (4 * i) (bel (fun i => 48 + z.natAbs / 10 ^ i % 10)))]⟩
    refine cSeq ?_
    refine cReg ?_
    refine mV hTT (.d (.one (.v (.bool (decide (((i : Nat) : Int) < ((digs4 z.natAbs).length : Int))))))) rfl ?_
    refine mNil ?_
    refine tN ?_
    refine cSeq ?_
    refine cCond rfl (fun hc1 => ?_) (fun hc1 => ?_)
    · skip
      refine cSkip ?_
      refine tN ?_
      refine cSeq ?_
      refine cBlock ?_
      refine cSeq ?_
      have hil : i < (digs4 z.natAbs).length := by have h0 := of_decide_eq_true hc1; omega
      refine cReg ?_
      refine mV hTT _ rfl ?_
      refine mV hTT _ rfl ?_
      refine mNil ?_
      refine tN ?_
      refine cSeq ?_
      refine cReg ?_
      refine mV hTT (.ptr 1 0) rfl ?_
      refine mV hTT (.d (.one (dn K z.natAbs))) rfl ?_
      refine mV hTT _ rfl ?_
      refine mView 19 (.d (.one (.row 1 ((digs4 z.natAbs).length) (fun i' _ => .v (.int .i64 (((digs4 z.natAbs).getD i' 0 : Nat) : Int)))))) rfl (le_drow _ _) ?_
      refine mV hTT (.d (.one (.at 1 ((fun i' _ => .v (.int .i64 (((digs4 z.natAbs).getD i' 0 : Nat) : Int))) i)))) (ixR (el := (fun i' _ => .v (.int .i64 (((digs4 z.natAbs).getD i' 0 : Nat) : Int)))) (z := ((i : Nat) : Int)) (n := ((digs4 z.natAbs).length)) rfl rfl rfl rfl rfl rfl (by omega) (by omega)) ?_
      refine mV hTT (.d (.one (.v (.int .i64 (((digs4 z.natAbs).getD i 0 : Nat) : Int))))) rfl ?_
      refine mV hTT _ rfl ?_
      refine mNil ?_
      refine tN ?_
      refine cSeq ?_
      refine cReg ?_
      refine mV hTT _ rfl ?_
      refine mNil ?_
      refine tN ?_
      refine cBlock ?_
      refine cLoop (ι := Nat × Nat) (fun (p : Nat × Nat) => match p with | (k, n) => ⟨85, [(1, .ptr 1 0), (2, .d (.one (.v (.string (⟨#[]⟩))))), (3, .own 3), (5, .d (.one (.v (.int .i64 ((n : Nat) : Int))))), (6, .d (.one (.v (.int .i64 ((k : Nat) : Int))))), (14, .d (.one (.v (.int .i64 ((digs4 z.natAbs).length : Int))))), (15, .d (.one (.v (.int .i64 ((i : Nat) : Int)))))], [(1, .box 31 (rn K z)), (3, .row 5 1 (4 * i + k) (bel (fun i => 48 + z.natAbs / 10 ^ i % 10)))]⟩) (fun (p : Nat × Nat) => match p with | (k, n) => k ≤ 4 ∧ n = ((digs4 z.natAbs).getD i 0) / 10 ^ k) (fun (p : Nat × Nat) => match p with | (k, n) => 4 - k) (0, ((digs4 z.natAbs).getD i 0)) (⟨by omega, by rw [Nat.pow_zero, Nat.div_one]⟩) (wk (sl := [(1, .ptr 1 0), (2, .d (.one (.v (.string (⟨#[]⟩))))), (3, .own 3), (5, .d (.one (.v (.int .i64 ((((digs4 z.natAbs).getD i 0) : Nat) : Int))))), (6, .d (.one (.v (.int .i64 ((0 : Nat) : Int))))), (14, .d (.one (.v (.int .i64 ((digs4 z.natAbs).length : Int))))), (15, .d (.one (.v (.int .i64 ((i : Nat) : Int)))))]) (hp := [(1, .box 31 (rn K z)), (3, .row 5 1 (4 * i + 0) (bel (fun i => 48 + z.natAbs / 10 ^ i % 10)))]) rfl ⟨hs rfl, hs rfl, hs rfl, hs rfl, hs' rfl (le_int rfl), hs rfl, hs rfl, trivial⟩ ⟨ho rfl, ho' rfl (leo_b rfl (fun _ _ => rfl)), trivial⟩ rfl) ?_
      rintro ⟨k, n⟩ hI
      obtain ⟨hk, hn⟩ : k ≤ 4 ∧ n = ((digs4 z.natAbs).getD i 0) / 10 ^ k := hI
      show AW Try.prog _ _ ⟨85, [(1, .ptr 1 0), (2, .d (.one (.v (.string (⟨#[]⟩))))), (3, .own 3), (5, .d (.one (.v (.int .i64 ((n : Nat) : Int))))), (6, .d (.one (.v (.int .i64 ((k : Nat) : Int))))), (14, .d (.one (.v (.int .i64 ((digs4 z.natAbs).length : Int))))), (15, .d (.one (.v (.int .i64 ((i : Nat) : Int)))))], [(1, .box 31 (rn K z)), (3, .row 5 1 (4 * i + k) (bel (fun i => 48 + z.natAbs / 10 ^ i % 10)))]⟩
      refine cSeq ?_
      refine cSeq ?_
      refine cReg ?_
      refine mV hTT _ rfl ?_
      refine mV hTT (.d (.one (.v (.bool (decide (((k : Nat) : Int) < 4)))))) rfl ?_
      refine mNil ?_
      refine tN ?_
      refine cCond rfl (fun hc2 => ?_) (fun hc2 => ?_)
      · skip
        refine cSkip ?_
        refine tN ?_
        refine cSeq ?_
        refine cBlock ?_
        refine cSeq ?_
        have hk3 : k < 4 := by have h0 := of_decide_eq_true hc2; omega
        have hnb : n < 10000 := by rw [hn]; exact Nat.lt_of_le_of_lt (Nat.div_le_self _ _) (getD_lt4 _ _)
        have hdg : n % 10 = z.natAbs / 10 ^ (4 * i + k) % 10 := by rw [hn, dig4_get hil]; exact group4_dig _ _ _ hk3
        refine cReg ?_
        refine mV hTT _ rfl ?_
        refine mV hTT _ rfl ?_
        refine mV hTT (.d (.one (.v (.int .i64 ((n % 10 : Nat) : Int))))) rfl ?_
        refine mV hTT (.d (.one (.v (.int .i64 ((48 + n % 10 : Nat) : Int))))) (evi ((wr64 (by omega) (by omega)).trans (by omega))) ?_
        refine mV hTT (.d (.one (.v (.int .u8 ((48 + n % 10 : Nat) : Int))))) (evi (wr8 (by omega) (by omega))) ?_
        refine mB hTT (.d (.one (.row 1 1 (fun i' j' => (([.v (.int .u8 ((48 + n % 10 : Nat) : Int))])[i' * 1 + j']?).getD (.v undef))))) rfl ?_
        refine mA hTT (id := 3) (n := (4 * i + k)) (m := 1) (el := (bel (fun i => 48 + z.natAbs / 10 ^ i % 10))) (el2 := (fun i' j' => (([.v (.int .u8 ((48 + n % 10 : Nat) : Int))])[i' * 1 + j']?).getD (.v undef))) rfl rfl rfl (by show ((4 * i + k) + 1) * 1 ≤ 140737488355328; omega) (by omega) rfl rfl rfl rfl rfl rfl rfl rfl rfl rfl ?_
        refine mV hTT _ rfl ?_
        refine mNil ?_
        refine tN ?_
        refine cReg ?_
        refine mV hTT _ rfl ?_
        refine mV hTT (.d (.one (.v (.int .i64 (IntKind.i64.wrap (Int.tdiv (n : Int) 10)))))) rfl ?_
        refine mV hTT _ rfl ?_
        refine mNil ?_
        refine bN ?_
        refine tN ?_
        refine cReg ?_
        refine mV hTT _ rfl ?_
        refine mV hTT (.d (.one (.v (.int .i64 ((k + 1 : Nat) : Int))))) (evi ((wr64 (by omega) (by omega)).trans (by omega))) ?_
        refine mV hTT _ rfl ?_
        refine mNil ?_
        exact ⟨((k + 1), (n / 10)), ⟨by omega, by rw [hn, Nat.div_div_eq_div_mul, Nat.pow_succ]⟩, by show 4 - (k + 1) < 4 - k; omega, wk (sl := [(1, .ptr 1 0), (2, .d (.one (.v (.string (⟨#[]⟩))))), (3, .own 3), (5, .d (.one (.v (.int .i64 (((n / 10) : Nat) : Int))))), (6, .d (.one (.v (.int .i64 (((k + 1) : Nat) : Int))))), (14, .d (.one (.v (.int .i64 ((digs4 z.natAbs).length : Int))))), (15, .d (.one (.v (.int .i64 ((i : Nat) : Int)))))]) (hp := [(1, .box 31 (rn K z)), (3, .row 5 1 (4 * i + (k + 1)) (bel (fun i => 48 + z.natAbs / 10 ^ i % 10)))]) rfl ⟨hs rfl, hs rfl, hs rfl, hs' rfl (le_int (show IntKind.i64.wrap (Int.tdiv (n : Int) 10) = _ from by rw [show Int.tdiv (n : Int) 10 = ((n / 10 : Nat) : Int) from rfl]; exact wr64 (by omega) (by omega))), hs rfl, hs rfl, hs rfl, trivial⟩ ⟨ho rfl, ho' rfl (app_b rfl (fun _ _ => rfl) (by rw [hdg])), trivial⟩ rfl⟩
      · skip
        refine cExit ?_
        refine tE ?_
        refine tE ?_
        refine bE ?_
        refine bN ?_
        refine tN ?_
        refine cReg ?_
        refine mV hTT (.d (.one (.v (.int .i64 ((i + 1 : Nat) : Int))))) (evi ((wr64 (by omega) (by omega)).trans (by omega))) ?_
        refine mV hTT _ rfl ?_
        refine mNil ?_
        have hk4 : k = 4 := by have h0 := of_decide_eq_false hc2; omega
        exact ⟨(i + 1), by omega, by show (digs4 z.natAbs).length - (i + 1) < (digs4 z.natAbs).length - i; omega, wk (sl := [(1, .ptr 1 0), (2, .d (.one (.v (.string (⟨#[]⟩))))), (3, .own 3), (14, .d (.one (.v (.int .i64 ((digs4 z.natAbs).length : Int))))), (15, .d (.one (.v (.int .i64 (((i + 1) : Nat) : Int)))))]) (hp := [(1, .box 31 (rn K z)), (3, .row 5 1 (4 * (i + 1)) (bel (fun i => 48 + z.natAbs / 10 ^ i % 10)))]) rfl ⟨hs rfl, hs rfl, hs rfl, hs rfl, hs rfl, trivial⟩ ⟨ho rfl, ho' rfl (leo_b (by omega) (fun _ _ => rfl)), trivial⟩ rfl⟩
    · skip
      refine cExit ?_
      refine tE ?_
      refine tE ?_
      refine bE ?_
      refine tN ?_
      refine cSeq ?_
      refine cBlock ?_
      have hie : i = (digs4 z.natAbs).length := by have h0 := of_decide_eq_false hc1; omega
      refine cLoop (ι := Nat) (fun (u : Nat) => ⟨85, [(1, .ptr 1 0), (2, .d (.one (.v (.string (⟨#[]⟩))))), (3, .own 3)], [(1, .box 31 (rn K z)), (3, .row 5 1 u (bel (fun i => 48 + z.natAbs / 10 ^ i % 10)))]⟩) (fun (u : Nat) => dlen z.natAbs ≤ u ∧ u ≤ 4 * i) (fun (u : Nat) => u) (4 * i) (⟨by omega, Nat.le_refl _⟩) (wk (sl := [(1, .ptr 1 0), (2, .d (.one (.v (.string (⟨#[]⟩))))), (3, .own 3)]) (hp := [(1, .box 31 (rn K z)), (3, .row 5 1 (4 * i) (bel (fun i => 48 + z.natAbs / 10 ^ i % 10)))]) rfl ⟨hs rfl, hs rfl, hs rfl, trivial⟩ ⟨ho rfl, ho rfl, trivial⟩ rfl) ?_
      rintro u hI
      obtain ⟨hu1, hu2⟩ : dlen z.natAbs ≤ u ∧ u ≤ 4 * i := hI
      show AW Try.prog _ _ ⟨85, [(1, .ptr 1 0), (2, .d (.one (.v (.string (⟨#[]⟩))))), (3, .own 3)], [(1, .box 31 (rn K z)), (3, .row 5 1 u (bel (fun i => 48 + z.natAbs / 10 ^ i % 10)))]⟩
      refine cSeq ?_
      refine cSeq ?_
      by_cases hdu : dlen z.natAbs < u
      · skip
        refine cReg ?_
        refine mV hTT _ rfl ?_
        refine mV hTT _ rfl ?_
        refine mV hTT (.d (.one (.v (.int .i64 (u : Int))))) rfl ?_
        refine mV hTT (.d (.one (.v (.int .i64 ((u - 1 : Nat) : Int))))) (evi ((wr64 (by omega) (by omega)).trans (by omega))) ?_
        refine mV hTT (.eptr 3 1 (u - 1) 0) (ixO (z := ((u - 1 : Nat) : Int)) (n := u) rfl rfl rfl rfl rfl rfl rfl (by omega) (by omega)) ?_
        refine mV hTT (.d (.one (.v (.int .u8 ((48 + z.natAbs / 10 ^ (u - 1) % 10 : Nat) : Int))))) rfl ?_
        refine mV hTT (.d (.one (.v (.bool true)))) (evb (beq_iff_eq.2 (by rw [dig_top (i := u - 1) (by omega)]; rfl))) ?_
        refine mNil ?_
        refine tN ?_
        refine cT rfl ?_
        refine cSkip ?_
        refine tN ?_
        refine cBlock ?_
        refine cReg ?_
        refine mV hTT _ rfl ?_
        refine mV hTT _ rfl ?_
        refine mV hTT (.d (.one (.v (.int .i64 (u : Int))))) rfl ?_
        refine mV hTT (.d (.one (.v (.int .i64 ((u - 1 : Nat) : Int))))) (evi ((wr64 (by omega) (by omega)).trans (by omega))) ?_
        refine mSh hTT (id := 3) (n := u) (h := (u - 1)) rfl rfl rfl (bndN rfl) (by omega) rfl rfl rfl rfl ?_
        refine mV hTT _ rfl ?_
        refine mNil ?_
        refine bN ?_
        exact ⟨(u - 1), ⟨by omega, by omega⟩, by show u - 1 < u; omega, wk (sl := [(1, .ptr 1 0), (2, .d (.one (.v (.string (⟨#[]⟩))))), (3, .own 3)]) (hp := [(1, .box 31 (rn K z)), (3, .row 5 1 (u - 1) (bel (fun i => 48 + z.natAbs / 10 ^ i % 10)))]) rfl ⟨hs rfl, hs rfl, hs rfl, trivial⟩ ⟨ho rfl, ho rfl, trivial⟩ rfl⟩
      · skip
        have hue : u = dlen z.natAbs := by omega
        have hdn := dig_top_ne (m := z.natAbs) (by omega)
        rw [← hue] at hdn
        refine cReg ?_
        refine mV hTT _ rfl ?_
        refine mV hTT _ rfl ?_
        refine mV hTT (.d (.one (.v (.int .i64 (u : Int))))) rfl ?_
        refine mV hTT (.d (.one (.v (.int .i64 ((u - 1 : Nat) : Int))))) (evi ((wr64 (by omega) (by omega)).trans (by omega))) ?_
        refine mV hTT (.eptr 3 1 (u - 1) 0) (ixO (z := ((u - 1 : Nat) : Int)) (n := u) rfl rfl rfl rfl rfl rfl rfl (by omega) (by omega)) ?_
        refine mV hTT (.d (.one (.v (.int .u8 ((48 + z.natAbs / 10 ^ (u - 1) % 10 : Nat) : Int))))) rfl ?_
        refine mV hTT (.d (.one (.v (.bool false)))) (evb (beq_eq_false_iff_ne.2 (fun e => hdn (by omega)))) ?_
        refine mNil ?_
        refine tN ?_
        refine cF rfl ?_
        refine cExit ?_
        refine tE ?_
        refine tE ?_
        refine bE ?_
        refine tN ?_
        refine cCut (ι := Unit) (fun _ => ⟨85, [(2, .d (.one (.v (.string (⟨#[]⟩))))), (3, .own 3)], [(3, .row 5 1 ((rvT z).length) (bel (fun j => (rvT z).getD j 0)))]⟩) (fun _ => True) ?_ (fun _ _ => ?_)
        · skip
          refine cSeq ?_
          subst hue
          by_cases hng : z < 0
          · skip
            refine cReg ?_
            refine mV hTT (.ptr 1 1) rfl ?_
            refine mV hTT (.d (.one (.v (.bool (decide (z < 0)))))) rfl ?_
            refine mView 50 (.d (.one (.v (.bool true)))) rfl (le_bool (decide_eq_true hng)) ?_
            refine mNil ?_
            refine tN ?_
            refine cT rfl ?_
            refine cReg ?_
            refine mV hTT _ rfl ?_
            refine mB hTT (.d (.one (.row 1 1 (fun i' j' => (([.v (.int .u8 45)])[i' * 1 + j']?).getD (.v undef))))) rfl ?_
            refine mA hTT (id := 3) (n := (dlen z.natAbs)) (m := 1) (el := (bel (fun i => 48 + z.natAbs / 10 ^ i % 10))) (el2 := (fun i' j' => (([.v (.int .u8 45)])[i' * 1 + j']?).getD (.v undef))) rfl rfl rfl (by show ((dlen z.natAbs) + 1) * 1 ≤ 140737488355328; omega) (by omega) rfl rfl rfl rfl rfl rfl rfl rfl rfl rfl ?_
            refine mV hTT _ rfl ?_
            refine mNil ?_
            refine tN ?_
            exact ⟨(), trivial, wk (sl := [(2, .d (.one (.v (.string (⟨#[]⟩))))), (3, .own 3)]) (hp := [(3, .row 5 1 ((rvT z).length) (bel (fun j => (rvT z).getD j 0)))]) rfl ⟨hs rfl, hs rfl, trivial⟩ ⟨ho' rfl (app_b (by rw [rvT_len, if_pos hng]) (fun i hi => (rvT_dig hi).symm) (by rw [rvT_neg hng]; rfl)), trivial⟩ rfl⟩
          · skip
            refine cReg ?_
            refine mV hTT (.ptr 1 1) rfl ?_
            refine mV hTT (.d (.one (.v (.bool (decide (z < 0)))))) rfl ?_
            refine mView 50 (.d (.one (.v (.bool false)))) rfl (le_bool (decide_eq_false hng)) ?_
            refine mNil ?_
            refine tN ?_
            refine cF rfl ?_
            refine cSkip ?_
            refine tN ?_
            exact ⟨(), trivial, wk (sl := [(2, .d (.one (.v (.string (⟨#[]⟩))))), (3, .own 3)]) (hp := [(3, .row 5 1 ((rvT z).length) (bel (fun j => (rvT z).getD j 0)))]) rfl ⟨hs rfl, hs rfl, trivial⟩ ⟨ho' rfl (leo_b (by rw [rvT_len, if_neg hng]; rfl) (fun i hi => (rvT_dig hi).symm)), trivial⟩ rfl⟩
        · skip
          show AW Try.prog _ _ ⟨85, [(2, .d (.one (.v (.string (⟨#[]⟩))))), (3, .own 3)], [(3, .row 5 1 ((rvT z).length) (bel (fun j => (rvT z).getD j 0)))]⟩
          refine cSeq ?_
          refine cSeq ?_
          refine cReg ?_
          refine mV hTT _ rfl ?_
          refine mNil ?_
          refine tN ?_
          refine cBlock ?_
          refine cLoop (ι := Nat) (fun (p : Nat) => ⟨85, [(2, .d (.one (.v (.string (⟨#[]⟩))))), (3, .own 3), (7, .d (.one (.v (.int .i64 ((p : Nat) : Int)))))], [(3, .row 5 1 ((rvT z).length) (bel (rv (rvT z) p)))]⟩) (fun (p : Nat) => 2 * p ≤ (rvT z).length) (fun (p : Nat) => (rvT z).length - p) 0 (Nat.zero_le _) (wk (sl := [(2, .d (.one (.v (.string (⟨#[]⟩))))), (3, .own 3), (7, .d (.one (.v (.int .i64 ((0 : Nat) : Int)))))]) (hp := [(3, .row 5 1 ((rvT z).length) (bel (rv (rvT z) 0)))]) rfl ⟨hs rfl, hs rfl, hs' rfl (le_int rfl), trivial⟩ ⟨ho' rfl (leo_b rfl (fun j hj => (rv_0 hj).symm)), trivial⟩ rfl) ?_
          rintro p hI
          have hp : 2 * p ≤ (rvT z).length := hI
          show AW Try.prog _ _ ⟨85, [(2, .d (.one (.v (.string (⟨#[]⟩))))), (3, .own 3), (7, .d (.one (.v (.int .i64 ((p : Nat) : Int)))))], [(3, .row 5 1 ((rvT z).length) (bel (rv (rvT z) p)))]⟩
          refine cSeq ?_
          refine cSeq ?_
          refine cReg ?_
          refine mV hTT _ rfl ?_
          refine mV hTT _ rfl ?_
          refine mV hTT (.d (.one (.v (.int .i64 (((rvT z).length : Nat) : Int))))) rfl ?_
          refine mV hTT (.d (.one (.v (.int .i64 (((rvT z).length / 2 : Nat) : Int))))) (evi (half64 (by omega))) ?_
          refine mV hTT (.d (.one (.v (.bool (decide (((p : Nat) : Int) < (((rvT z).length / 2 : Nat) : Int))))))) rfl ?_
          refine mNil ?_
          refine tN ?_
          refine cCond rfl (fun hc3 => ?_) (fun hc3 => ?_)
          · skip
            refine cSkip ?_
            refine tN ?_
            refine cSeq ?_
            refine cBlock ?_
            have hil : p < (rvT z).length - 1 - p := by have h0 := of_decide_eq_true hc3; omega
            refine Ne.cDrawS hTT 24 (by kernel_rfl) (by kernel_rfl) ?_
            refine .cons (OpS.V _ rfl) (by kernel_rfl) ?_
            refine .cons (OpS.V _ rfl) (by kernel_rfl) ?_
            refine .cons (OpS.V _ rfl) (by kernel_rfl) ?_
            refine .cons (OpS.V _ rfl) (by kernel_rfl) ?_
            refine .cons (OpS.V (.d (.one (.v (.int .i64 (((rvT z).length : Nat) : Int))))) rfl) (by kernel_rfl) ?_
            refine .cons (OpS.V (.d (.one (.v (.int .i64 (((rvT z).length - 1 : Nat) : Int))))) (evi ((wr64 (by omega) (by omega)).trans (by omega)))) (by kernel_rfl) ?_
            refine .cons (OpS.V _ rfl) (by kernel_rfl) ?_
            refine .cons (OpS.V (.d (.one (.v (.int .i64 (((rvT z).length - 1 - p : Nat) : Int))))) (evi ((wr64 (by omega) (by omega)).trans (by omega)))) (by kernel_rfl) ?_
            refine .cons (OpS.V _ rfl) (by kernel_rfl) ?_
            refine .cons (OpS.V _ rfl) (by kernel_rfl) ?_
            refine .cons (OpS.V (.d (.one (.v (.int .i64 (((rvT z).length : Nat) : Int))))) rfl) (by kernel_rfl) ?_
            refine .cons (OpS.V (.d (.one (.v (.int .i64 (((rvT z).length - 1 : Nat) : Int))))) (evi ((wr64 (by omega) (by omega)).trans (by omega)))) (by kernel_rfl) ?_
            refine .cons (OpS.V _ rfl) (by kernel_rfl) ?_
            refine .cons (OpS.V (.d (.one (.v (.int .i64 (((rvT z).length - 1 - p : Nat) : Int))))) (evi ((wr64 (by omega) (by omega)).trans (by omega)))) (by kernel_rfl) ?_
            refine .cons (OpS.V (.eptr 3 1 ((rvT z).length - 1 - p) 0) (ixO (z := (((rvT z).length - 1 - p : Nat) : Int)) (n := ((rvT z).length)) rfl rfl rfl rfl rfl rfl rfl (by omega) (by omega))) (by kernel_rfl) ?_
            refine .cons (OpS.V (.d (.one (.v (.int .u8 ((rv (rvT z) p ((rvT z).length - 1 - p) : Nat) : Int))))) rfl) (by kernel_rfl) ?_
            refine .cons (OpS.V _ rfl) (by kernel_rfl) ?_
            refine .cons (OpS.V _ rfl) (by kernel_rfl) ?_
            refine .cons (OpS.V (.eptr 3 1 p 0) (ixO (z := ((p : Nat) : Int)) (n := ((rvT z).length)) rfl rfl rfl rfl rfl rfl rfl (by omega) (by omega))) (by kernel_rfl) ?_
            refine .cons (OpS.V (.d (.one (.v (.int .u8 ((rv (rvT z) p p : Nat) : Int))))) rfl) (by kernel_rfl) ?_
            refine .cons (OpS.V (.eptr 3 1 p 0) (ixO (z := ((p : Nat) : Int)) (n := ((rvT z).length)) rfl rfl rfl rfl rfl rfl rfl (by omega) (by omega))) (by kernel_rfl) ?_
            refine .cons (OpS.S 3 (.row 5 1 ((rvT z).length) (fun p' q' => if p' = p then (([.v (.int .u8 ((rv (rvT z) p ((rvT z).length - 1 - p) : Nat) : Int))])[q']?).getD (.v undef) else (bel (rv (rvT z) p)) p' q')) rfl rfl) (by kernel_rfl) ?_
            refine .cons (OpS.V (.eptr 3 1 ((rvT z).length - 1 - p) 0) (ixO (z := (((rvT z).length - 1 - p : Nat) : Int)) (n := ((rvT z).length)) rfl rfl rfl rfl rfl rfl rfl (by omega) (by omega))) (by kernel_rfl) ?_
            refine .cons (OpS.S 3 (.row 5 1 ((rvT z).length) (fun p' q' => if p' = ((rvT z).length - 1 - p) then (([.v (.int .u8 ((rv (rvT z) p p : Nat) : Int))])[q']?).getD (.v undef) else (fun p' q' => if p' = p then (([.v (.int .u8 ((rv (rvT z) p ((rvT z).length - 1 - p) : Nat) : Int))])[q']?).getD (.v undef) else (bel (rv (rvT z) p)) p' q') p' q')) rfl rfl) (by kernel_rfl) ?_
            refine .nil ?_
            refine mNil ?_
            refine bN ?_
            refine tN ?_
            refine cReg ?_
            refine mV hTT _ rfl ?_
            refine mV hTT (.d (.one (.v (.int .i64 ((p + 1 : Nat) : Int))))) (evi ((wr64 (by omega) (by omega)).trans (by omega))) ?_
            refine mV hTT _ rfl ?_
            refine mNil ?_
            exact ⟨(p + 1), by omega, by omega, wk (sl := [(2, .d (.one (.v (.string (⟨#[]⟩))))), (3, .own 3), (7, .d (.one (.v (.int .i64 (((p + 1) : Nat) : Int)))))]) (hp := [(3, .row 5 1 ((rvT z).length) (bel (rv (rvT z) (p + 1))))]) rfl ⟨hs rfl, hs rfl, hs rfl, trivial⟩ ⟨ho' rfl (st2_b rfl (fun j hj => rv_step hil hj)), trivial⟩ rfl⟩
          · skip
            refine cExit ?_
            refine tE ?_
            refine tE ?_
            refine bE ?_
            refine tN ?_
            refine cSeq ?_
            have hie : ¬ p < (rvT z).length - 1 - p := by have h0 := of_decide_eq_false hc3; omega
            refine AW.wk (wkRow 3 rfl) ?_
            refine cReg ?_
            refine mV hTT _ rfl ?_
            refine mX (.d (.one (.v (.string (txt z))))) (xStr (txt z) rfl Try.underlying55 Try.underlying5 Try.underlying9 rfl (txt_size hz) (fun j hj => by show Lf.v (.int .u8 ((rv (rvT z) p j : Nat) : Int)) = _; rw [rv_end hie hj, txt_sb hz hj])) ?_
            refine mV hTT _ rfl ?_
            refine mNil ?_
            refine tN ?_
            refine cRet ?_
            exact rQ rfl (AV.le.rfl)

set_option maxRecDepth 100000 in
set_option maxHeartbeats 4000000 in
theorem aRFrac {a : List Lf} {K : Nat} {q : Rat} (ha : IsQ a K q) (hK : K ≤ 100000 := by decide) : ACall Try.prog 23 [.agg a] (.d (.one (.v (.string (frT q))))) := by
  refine ACall.le (dl (DV.g ha) dl0) AV.le.rfl ?_
  refine ACall.fact (p := (digs4 q.num.natAbs).length ≤ K ∧ (digs4 (q.den : Int).natAbs).length ≤ K) (enters Try.func23 rfl rfl) (fun B w vs h => qn_bd h) (fun hB => ?_)
  have hs1 := txt_le4 hB.1
  have hs2 := txt_le4 hB.2
  refine acallN hTT 19 [.tmp 2] Try.func23 rfl rfl rfl rfl rfl ?_
  refine cSeq ?_
  refine cReg ?_
  refine mN hTT (.box 49 (qn K q)) rfl rfl rfl ?_
  refine mV hTT _ rfl ?_
  refine mNil ?_
  refine tN ?_
  refine cSeq ?_
  refine cSeq ?_
  by_cases h1 : Rat.den q = 1
  · skip
    refine cDrawK hTT 5 (by kernel_rfl) (by kernel_rfl) (by kernel_rfl) ?_
    refine .cons (OpS.V (.ptr 1 2) rfl) ?_
    refine .cons (OpS.V (.d (.agg (rn K (Rat.den q : Int)))) rfl) ?_
    refine .cons (OpS.C0 (aROf (n := 1) (by decide) (by decide)) rfl rfl rfl) ?_
    refine .cons (OpS.C0 (aRCmp (isr K (Rat.den q : Int)) (isr 64 1) (by omega) (by decide)) rfl rfl rfl) ?_
    refine .cons (OpS.V (.d (.one (.v (.bool true)))) (evb (by rw [h1]; rfl))) ?_
    refine .nil ?_
    refine mNil ?_
    refine tN ?_
    refine cT rfl ?_
    refine cSeq ?_
    refine cReg ?_
    refine mV hTT (.ptr 1 0) rfl ?_
    refine mV hTT (.d (.agg (rn K (Rat.num q)))) rfl ?_
    refine mC0 (aRText (isr K (Rat.num q)) (by omega)) rfl rfl rfl ?_
    refine mV hTT _ rfl ?_
    refine mNil ?_
    refine tN ?_
    refine cRet ?_
    refine tR ?_
    exact rQ rfl (le_str (by unfold frT; rw [if_pos h1]))
  · skip
    refine cDrawK hTT 5 (by kernel_rfl) (by kernel_rfl) (by kernel_rfl) ?_
    refine .cons (OpS.V (.ptr 1 2) rfl) ?_
    refine .cons (OpS.V (.d (.agg (rn K (Rat.den q : Int)))) rfl) ?_
    refine .cons (OpS.C0 (aROf (n := 1) (by decide) (by decide)) rfl rfl rfl) ?_
    refine .cons (OpS.C0 (aRCmp (isr K (Rat.den q : Int)) (isr 64 1) (by omega) (by decide)) rfl rfl rfl) ?_
    refine .cons (OpS.V (.d (.one (.v (.bool false)))) (evb (cmpZ_one h1))) ?_
    refine .nil ?_
    refine mNil ?_
    refine tN ?_
    refine cF rfl ?_
    refine cSkip ?_
    refine tN ?_
    refine cSeq ?_
    refine cDrawK hTT 9 (by kernel_rfl) (by kernel_rfl) (by kernel_rfl) ?_
    refine .cons (OpS.V (.ptr 1 0) rfl) ?_
    refine .cons (OpS.V (.d (.agg (rn K (Rat.num q)))) rfl) ?_
    refine .cons (OpS.C0 (aRText (isr K (Rat.num q)) (by omega)) rfl rfl rfl) ?_
    refine .cons (OpS.V (.d (.one (.v (.string ((txt (Rat.num q)) ++ ⟨#[47]⟩))))) (evcat rfl rfl rfl (by show (txt (Rat.num q)).size + 1 ≤ _; omega))) ?_
    refine .cons (OpS.V (.ptr 1 2) rfl) ?_
    refine .cons (OpS.V (.d (.agg (rn K (Rat.den q : Int)))) rfl) ?_
    refine .cons (OpS.C0 (aRText (isr K (Rat.den q : Int)) (by omega)) rfl rfl rfl) ?_
    refine .cons (OpS.V (.d (.one (.v (.string (((txt (Rat.num q)) ++ ⟨#[47]⟩) ++ (txt (Rat.den q : Int))))))) (evcat rfl rfl rfl (by rw [size_app]; show (txt (Rat.num q)).size + 1 + (txt (Rat.den q : Int)).size ≤ _; omega))) ?_
    refine .cons (OpS.V _ rfl) ?_
    refine .nil ?_
    refine mNil ?_
    refine tN ?_
    refine cRet ?_
    exact rQ rfl (le_str (by unfold frT; rw [if_neg h1]))

set_option maxRecDepth 100000 in
set_option maxHeartbeats 4000000 in
theorem aDigitsTexts {L1 : Nat} {s1 : Bool} {xs1 : List Nat} (hL1 : L1 ≤ 9223372036854775807) : ACall Try.prog 3 [.agg [.v (.bool s1), lr L1 xs1]] (.d (.one (.v (.bool true)))) := by
  refine acallN hTT 14 [.tmp 2] Try.func3 rfl rfl rfl rfl rfl ?_
  refine cSeq ?_
  refine cReg ?_
  refine mN hTT (.box 24 ([.v (.bool s1), lr L1 xs1])) rfl rfl rfl ?_
  refine mV hTT _ rfl ?_
  refine mNil ?_
  refine tN ?_
  refine cSeq ?_
  refine cReg ?_
  refine mV hTT (.d (.agg ([.v (.bool s1), lr L1 xs1]))) rfl ?_
  refine mC0 (aKInt (K := L1) (k := 30) (s := s1) (xs := xs1) (by omega) (by omega)) rfl rfl rfl ?_
  refine mS hTT 1 (.box 24 ([.v (.bool s1), lr 30 (xs1.take 30)])) rfl ?_
  refine mNil ?_
  refine tN ?_
  refine cSeq ?_
  refine cDrawK hTT 10 (by kernel_rfl) (by kernel_rfl) (by kernel_rfl) ?_
  refine .cons (OpS.V (.d (.agg ([.v (.bool s1), lr 30 (xs1.take 30)]))) rfl) ?_
  refine .cons (OpS.C0 (aDText (iszr 30 s1 (xs1.take 30)) (by decide)) rfl rfl rfl) ?_
  refine .cons (OpS.V (.d (.agg ([.v (.bool s1), lr 30 (xs1.take 30)]))) rfl) ?_
  refine .cons (OpS.C0 (aRFrom (iszr 30 s1 (xs1.take 30)) (M := 90) (by decide) (by decide)) rfl rfl rfl) ?_
  refine .cons (OpS.C0 (aRText (isr 90 (zv s1 (val (xs1.take 30)))) (by decide)) rfl rfl rfl) ?_
  refine .cons (OpS.V (.d (.one (.v (.bool true)))) (evb (beq_self_eq_true _))) ?_
  refine .cons (OpS.V _ rfl) ?_
  refine .cons (OpS.C0 (aWakes3) rfl rfl rfl) ?_
  refine .cons (OpS.V _ rfl) ?_
  refine .cons (OpS.V _ rfl) ?_
  refine .nil ?_
  refine mNil ?_
  refine tN ?_
  refine cRet ?_
  exact rQ rfl (AV.le.rfl)

set_option maxRecDepth 100000 in
set_option maxHeartbeats 4000000 in
theorem aDigitsFractions {L1 : Nat} {s1 t1 : Bool} {xs1 ys1 : List Nat} (hL1 : L1 ≤ 9223372036854775807) : ACall Try.prog 6 [.agg (tan L1 s1 xs1 t1 ys1)] (.d (.one (.v (.bool true)))) := by
  refine acallN hTT 17 [.tmp 2] Try.func6 rfl rfl rfl rfl rfl ?_
  refine cSeq ?_
  refine cReg ?_
  refine mN hTT (.box 46 ([.v (.bool s1), lr L1 xs1] ++ [.v (.bool t1), lr L1 ys1])) rfl rfl rfl ?_
  refine mV hTT _ rfl ?_
  refine mNil ?_
  refine tN ?_
  refine cSeq ?_
  refine cReg ?_
  refine mV hTT (.d (.agg ([.v (.bool s1), lr L1 xs1] ++ [.v (.bool t1), lr L1 ys1]))) rfl ?_
  refine mC0 (aKRat (K := L1) (k := 12) (s := s1) (t := t1) (xs := xs1) (ys := ys1) (by omega) (by omega)) rfl rfl rfl ?_
  refine mS hTT 1 (.box 46 ([.v (.bool s1), lr 12 (xs1.take 12)] ++ [.v (.bool t1), lr 12 (ys1.take 12)])) rfl ?_
  refine mNil ?_
  refine tN ?_
  refine cSeq ?_
  refine cReg ?_
  refine mV hTT (.d (.agg ([.v (.bool s1), lr 12 (xs1.take 12)] ++ [.v (.bool t1), lr 12 (ys1.take 12)]))) rfl ?_
  refine mC0 (aRFromR (⟨s1, (xs1.take 12), t1, (ys1.take 12), fun _ _ _ h => h, rfl, rfl⟩ : IsT ([.v (.bool s1), lr 12 (xs1.take 12)] ++ [.v (.bool t1), lr 12 (ys1.take 12)]) 12 (zv s1 (val (xs1.take 12))) (zv t1 (val (ys1.take 12)))) (M := 64) (by decide) (by decide)) rfl rfl rfl ?_
  refine mN hTT (.box 49 ([.v (.slice none 0 0), .v (.bool false), .v (.slice none 0 0), .v (.bool false)])) rfl rfl rfl ?_
  refine mS hTT 3 (.box 49 (qn 64 (mkR (zv s1 (val (xs1.take 12))) (zv t1 (val (ys1.take 12)))))) rfl ?_
  refine mNil ?_
  refine tN ?_
  refine cSeq ?_
  refine cDrawK hTT 10 (by kernel_rfl) (by kernel_rfl) (by kernel_rfl) ?_
  refine .cons (OpS.V (.d (.agg (qn 64 (mkR (zv s1 (val (xs1.take 12))) (zv t1 (val (ys1.take 12))))))) rfl) ?_
  refine .cons (OpS.C0 (aRToR (isq 64 (mkR (zv s1 (val (xs1.take 12))) (zv t1 (val (ys1.take 12))))) (by decide)) rfl rfl rfl) ?_
  refine .cons (OpS.C0 (aDFrac (istn 64 (mkR (zv s1 (val (xs1.take 12))) (zv t1 (val (ys1.take 12))))) (by decide)) rfl rfl rfl) ?_
  refine .cons (OpS.V (.d (.agg (qn 64 (mkR (zv s1 (val (xs1.take 12))) (zv t1 (val (ys1.take 12))))))) rfl) ?_
  refine .cons (OpS.C0 (aRFrac (isq 64 (mkR (zv s1 (val (xs1.take 12))) (zv t1 (val (ys1.take 12))))) (by decide)) rfl rfl rfl) ?_
  refine .cons (OpS.V (.d (.one (.v (.bool true)))) (evb (beq_self_eq_true _))) ?_
  refine .cons (OpS.V _ rfl) ?_
  refine .cons (OpS.C0 (aWakes3) rfl rfl rfl) ?_
  refine .cons (OpS.V _ rfl) ?_
  refine .cons (OpS.V _ rfl) ?_
  refine .nil ?_
  refine mNil ?_
  refine tN ?_
  refine cRet ?_
  exact rQ rfl (AV.le.rfl)

end Go.Proofs.Ytoagihianelhjaa

