/-
  THE ABSTRACT MACHINE: A REGION THAT DRAWS ITS ORDER, WITH STORES: a store may come ahead of operations that stand before it. No condition; nothing of the program.
-/
import Derived.Test.YtoagihianelhjaaJ1
import Derived.Test.YtoagihianelhjaaJ3
set_option linter.unusedVariables false
set_option linter.unusedSimpArgs false
namespace Go.Proofs.Ytoagihianelhjaa.Nd
open Go.Proofs.Ytoagihianelhjaa
open Go.RowKit Am

def avId : AV → Option Nat
  | .ptr id _ | .own id | .eptr id _ _ _ => some id
  | _ => none
/-- The objects that operands speak of. -/
def idsOf (s : AS) (l : List Operand) : List Nat := l.filterMap fun x => (geto s x).bind avId
theorem idsOf_mem {s : AS} {l : List Operand} {x : Operand} {av : AV} {id : Nat} (hx : x ∈ l) (hg : geto s x = some av) (hi : avId av = some id) : id ∈ idsOf s l :=
  List.mem_filterMap.2 ⟨x, hx, by rw [hg]; exact hi⟩
/-- Operations whose answer, or whose deed, hangs on objects. -/
def isRd : Op → Bool
  | .load .. | .indexAddr .. | .call .. | .store .. => true
  | _ => false
/-- The objects that such an operation speaks of. -/
def idsR (s : AS) (op : Op) : List Nat := bif isRd op then idsOf s op.operands.toList else []
theorem idsR_of {s : AS} {op : Op} {id : Nat} (h : id ∈ idsR s op) : id ∈ idsOf s op.operands.toList := by
  unfold idsR at h
  cases e : isRd op with
  | true => rw [e] at h; exact h
  | false => rw [e] at h; cases h
theorem idsR_to {s : AS} {op : Op} {id : Nat} (hr : isRd op = true) (h : id ∈ idsOf s op.operands.toList) : id ∈ idsR s op := by
  unfold idsR; rw [hr]; exact h
theorem avId_R {ρ : Rho} {B : BS} {w : World} {av : AV} {c : Value} {id : Nat} (hi : avId av = some id) (h : AR ρ B w av c) : ∃ v, ρ id = some v := by
  cases av <;> simp only [avId, Option.some.injEq, reduceCtorEq] at hi
  · subst hi; obtain ⟨g, h1, _⟩ := h; exact ⟨_, h1⟩
  · subst hi; exact ⟨_, h.1⟩
  · subst hi; obtain ⟨g, n, cap, h1, _⟩ := h; exact ⟨_, h1⟩

section
variable {P : Program} {T : TypeId → Option TI} {ops : Array Oper} {s s' : AS} {o : Oper} {Q : Qs}

theorem evV_congr2 {op : Op} (h : ∀ x ∈ op.operands, geto s x = geto s' x) (hh : ∀ id ∈ idsR s op, lk s.hp id = lk s'.hp id) : evV T s op = evV T s' op := by
  have key : isRd op = true → ∀ x ∈ op.operands, ∀ av id, geto s x = some av → avId av = some id → lk s.hp id = lk s'.hp id := fun hr x hx av id hg hi => hh id (idsR_to hr (idsOf_mem (by simpa using hx) hg hi))
  have e1 : evV T s op = evV T ⟨s.n, s.sl, s'.hp⟩ op := by
    have g : ∀ x, geto s x = geto ⟨s.n, s.sl, s'.hp⟩ x := fun x => by cases x with | const v => cases v <;> rfl | _ => rfl
    have hint : ∀ x, ints2 s x = ints2 ⟨s.n, s.sl, s'.hp⟩ x := fun x => by unfold ints2; rw [g x]
    cases op with
    | load t x =>
      simp only [evV]
      rw [← g x]
      split
      · rfl
      · split
        · rename_i id off hx; rw [key rfl x (by simp [Op.operands]) _ id hx rfl]
        · rename_i id sz i j hx; rw [key rfl x (by simp [Op.operands]) _ id hx rfl]
        · rfl
        · rfl
    | indexAddr t x ix =>
      simp only [evV]
      rw [← g x, ← hint ix]
      split
      · rfl
      · split
        · rfl
        · split
          · split
            · rfl
            · rename_i id hx; rw [key rfl x (by simp [Op.operands]) _ id hx rfl]
            · rfl
          · rfl
    | call c =>
      have hl : getls s c.args.toList = getls ⟨s.n, s.sl, s'.hp⟩ c.args.toList := getls_congr _ fun x _ => g x
      simp only [evV]
      rw [hl]
      split
      · split
        · rename_i x t ha ht
          rw [← g x]
          split
          · rfl
          · split
            · rfl
            · rfl
            · rfl
            · rename_i id he hx
              rw [key rfl x (by simp only [Op.operands, Call.operands]; exact Array.mem_append.2 (Or.inr (by have : x ∈ c.args.toList := (by rw [ha]; simp); simpa using this))) _ id hx rfl]
            · rfl
        · rfl
      · rfl
      · rfl
      · rfl
    | move x => exact g x
    | assign x => exact g x
    | pick c a b => simp only [evV]; rw [g c, g a, g b]
    | binOp op t x y yt => simp only [evV]; rw [g x, g y]
    | unOp op t x => simp only [evV]; rw [g x]
    | convert src dst x => simp only [evV]; rw [g x]
    | fieldAddr t x f => simp only [evV]; rw [g x]
    | field t x f => simp only [evV]; rw [g x]
    | extract x i => simp only [evV]; rw [g x]
    | slice t x lo hi mx =>
      cases mx with
      | some m => rfl
      | none =>
        have hlo : ∀ y d, bndV s y d = bndV ⟨s.n, s.sl, s'.hp⟩ y d := by
          intro y d
          cases y with
          | none => rfl
          | some y => simp only [bndV]; rw [hint y]
        simp only [evV, ← g x, ← hlo]
    | build t ps =>
      simp only [evV]
      rw [getps_congr ps.toList (fun p _ => g p.2)]
    | makeFunc fn fi caps =>
      have hl := getls_congr caps.toList (fun x _ => g x)
      cases fn <;> first | rfl | (simp only [evV]; rw [hl])
    | _ => rfl
  rw [e1]
  refine evV_congr rfl (fun x hx => ?_)
  rw [← h x hx]
  cases x with
  | const v => cases v <;> rfl
  | _ => rfl

theorem evS_congr2 {op : Op} (h : ∀ x ∈ op.operands, geto s x = geto s' x) (hh : ∀ id ∈ idsR s op, lk s.hp id = lk s'.hp id) : evS T s op = evS T s' op := by
  cases op with
  | store t x y =>
    have hx := h x (by simp [Op.operands])
    have hy := h y (by simp [Op.operands])
    have key : ∀ av id, geto s x = some av → avId av = some id → lk s.hp id = lk s'.hp id := fun av id hg hi => hh id (idsR_to rfl (idsOf_mem (x := x) (by simp [Op.operands]) hg hi))
    simp only [evS]
    rw [← hx, ← hy]
    split
    · rfl
    · split
      · rename_i id off d hgx hgy; rw [key _ id hgx rfl]
      · rename_i id sz i d hgx hgy; rw [key _ id hgx rfl]
      · rfl
  | _ => rfl

def isSt : Op → Bool
  | .store .. => true
  | _ => false
def isNw : Op → Bool
  | .alloc .. | .box .. | .makeSlice .. => true
  | _ => false
theorem evS_id {op : Op} {id : Nat} {ob : AO} (h : evS T s op = some (id, ob)) : isSt op = true ∧ id ∈ idsR s op := by
  cases op with
  | store t x y =>
    refine ⟨rfl, ?_⟩
    simp only [evS] at h
    split at h
    · cases h
    · split at h
      · rename_i id' off d hgx hgy
        split at h
        · split at h
          · simp only [Option.some.injEq, Prod.mk.injEq] at h; obtain ⟨rfl, _⟩ := h; exact idsR_to rfl (idsOf_mem (x := x) (by simp [Op.operands]) hgx rfl)
          · cases h
        · cases h
      · rename_i id' sz i d hgx hgy
        split at h
        · split at h
          · simp only [Option.some.injEq, Prod.mk.injEq] at h; obtain ⟨rfl, _⟩ := h; exact idsR_to rfl (idsOf_mem (x := x) (by simp [Op.operands]) hgx rfl)
          · cases h
        · cases h
      · cases h
  | _ => simp [evS] at h
theorem evN_nw {op : Op} {ob : AO} (h : evN T s op = some ob) : isNw op = true := by
  cases op <;> first | rfl | simp [evN] at h

/-- Does the operation wait for that one, or for one that does? -/
def reach (ops : Array Oper) : Nat → Oper → Nat → Bool
  | 0, _, _ => false
  | f + 1, o, k => waitsOn o k || o.after.toList.any fun e => Region.binds .any e && match ops[e.on]? with
    | some o' => reach ops f o' k
    | none => false
theorem reach_ok {ops : Array Oper} {D : Nat → Prop} (hcl : ∀ k ok, ops[k]? = some ok → D k → ∀ j, waitsOn ok j = true → D j) : ∀ (f : Nat) (o : Oper) (k : Nat), (∀ j, waitsOn o j = true → D j) → reach ops f o k = true → D k
  | 0, _, _, _, h => by cases h
  | f + 1, o, k, hw, h => by
    rw [reach, Bool.or_eq_true] at h
    rcases h with h | h
    · exact hw k h
    · obtain ⟨e, he, h2⟩ := List.any_eq_true.1 h
      rw [Bool.and_eq_true] at h2
      obtain ⟨hb, h3⟩ := h2
      split at h3
      · rename_i o' ho'
        have hDe : D e.on := hw e.on (List.any_eq_true.2 ⟨e, he, by rw [hb]; exact beq_self_eq_true _⟩)
        exact reach_ok hcl f o' k (hcl _ _ ho' hDe) h3
      · cases h3
/-- Does the operation wait for those with which it may not change places? -/
def cflB (ops : Array Oper) (log : List (Nat × List Nat × Bool)) (o : Oper) (ids : List Nat) : Bool :=
  (log.all fun q => !(isSt o.op || q.2.2) || ids.all (fun id => !(q.2.1).contains id) || reach ops 6 o q.1) &&
  (!isNw o.op || match o.dst with
    | some d => log.all fun q => !(q.2.1).contains d
    | none => true)
inductive ChS (P : Program) (T : TypeId → Option TI) (ops : Array Oper) (K : AS → Prop) : Nat → List (Nat × List Nat × Bool) → List Oper → AS → Prop
  | nil {i : Nat} {log : List (Nat × List Nat × Bool)} {s : AS} (h : K s) : ChS P T ops K i log [] s
  | cons {i : Nat} {log : List (Nat × List Nat × Bool)} {o : Oper} {l : List Oper} {s s1 : AS} (h : OpS P T ops o s s1) (hc : cflB ops log o (idsR s o.op) = true) (k : ChS P T ops K (i + 1) ((i, idsR s o.op, isSt o.op) :: log) l s1) : ChS P T ops K i log (o :: l) s

abbrev idO (st : Nat → AS) (i : Nat) (o : Oper) : List Nat := idsR (st i) o.op
theorem ChS.st {K : AS → Prop} {i0 : Nat} {log : List (Nat × List Nat × Bool)} {l : List Oper} (h : ChS P T ops K i0 log l s) : ∃ st : Nat → AS, st 0 = s ∧ K (st l.length) ∧ (∀ (i : Nat) (o : Oper), l[i]? = some o → OpS P T ops o (st i) (st (i + 1))) ∧
    (∀ (i : Nat) (o : Oper), l[i]? = some o → ∀ q ∈ log, (isSt o.op = true ∨ q.2.2 = true) → ∀ id ∈ idO st i o, id ∈ q.2.1 → reach ops 6 o q.1 = true) ∧
    (∀ (i : Nat) (o : Oper), l[i]? = some o → isNw o.op = true → ∀ d, o.dst = some d → ∀ q ∈ log, ¬ d ∈ q.2.1) ∧
    (∀ (i : Nat) (o : Oper) (k : Nat) (ok : Oper), k < i → l[i]? = some o → l[k]? = some ok → (isSt o.op = true ∨ isSt ok.op = true) → ∀ id ∈ idO st i o, id ∈ idO st k ok → reach ops 6 o (i0 + k) = true) ∧
    (∀ (i : Nat) (o : Oper) (k : Nat) (ok : Oper), k < i → l[i]? = some o → l[k]? = some ok → isNw o.op = true → ∀ d, o.dst = some d → ¬ d ∈ idO st k ok) := by
  induction h with
  | nil h => exact ⟨fun _ => _, rfl, h, by simp, by simp, by simp, by simp, by simp⟩
  | @cons i0 log o l s s1 h hc k ih =>
    obtain ⟨st, h1, h2, h3, h4, h5, h6, h7⟩ := ih
    simp only [cflB, Bool.and_eq_true, Bool.or_eq_true, List.all_eq_true] at hc
    obtain ⟨hc1, hc2⟩ := hc
    refine ⟨fun i => match i with | 0 => s | i + 1 => st i, rfl, h2, ?_, ?_, ?_, ?_, ?_⟩
    · intro i o' ho
      cases i with
      | zero => obtain rfl : o = o' := by simpa using ho
                show OpS P T ops o s (st 0); rw [h1]; exact h
      | succ i => exact h3 i o' (by simpa using ho)
    · intro i o' ho q hq hst id hid hidq
      cases i with
      | zero =>
        obtain rfl : o = o' := by simpa using ho
        rcases hc1 q hq with (h8 | h8) | h8
        · exfalso; rcases hst with e | e <;> simp [e] at h8
        · exfalso
          have h9 := h8 id hid
          simp at h9; exact h9 hidq
        · exact h8
      | succ i => exact h4 i o' (by simpa using ho) q (List.mem_cons_of_mem _ hq) hst id hid hidq
    · intro i o' ho hnw d hd q hq
      cases i with
      | zero =>
        obtain rfl : o = o' := by simpa using ho
        rcases hc2 with h8 | h8
        · rw [hnw] at h8; cases h8
        · rw [hd] at h8
          have h9 := List.all_eq_true.1 h8 q hq
          simpa using h9
      | succ i => exact h5 i o' (by simpa using ho) hnw d hd q (List.mem_cons_of_mem _ hq)
    · intro i o' k' ok hk ho hok hst id hid hidk
      cases i with
      | zero => omega
      | succ i =>
        cases k' with
        | zero =>
          obtain rfl : o = ok := by simpa using hok
          exact h4 i o' (by simpa using ho) (i0, idsR s o.op, isSt o.op) (List.mem_cons_self ..) hst id hid hidk
        | succ k' =>
          have := h6 i o' k' ok (by omega) (by simpa using ho) (by simpa using hok) hst id hid hidk
          rwa [show i0 + 1 + k' = i0 + (k' + 1) by omega] at this
    · intro i o' k' ok hk ho hok hnw d hd
      cases i with
      | zero => omega
      | succ i =>
        cases k' with
        | zero =>
          obtain rfl : o = ok := by simpa using hok
          exact h5 i o' (by simpa using ho) hnw d hd (i0, idsR s o.op, isSt o.op) (List.mem_cons_self ..)
        | succ k' => exact h7 i o' k' ok (by omega) (by simpa using ho) (by simpa using hok) hnw d hd

/-- What an operation does to slots and objects. -/
theorem OpS.shape2 (h : OpS P T ops o s s') : s'.n = s.n ∧ (∀ d, o.dst = some d → s'.sl = (d, avh s') :: s.sl) ∧ (o.dst = none → s'.sl = s.sl) ∧
    ∃ wr : Option (Nat × AO), s'.hp = wr.toList ++ s.hp ∧ ∀ p, wr = some p → (isNw o.op = true ∧ o.dst = some p.1 ∧ lk s.hp p.1 = none) ∨ (isSt o.op = true ∧ p.1 ∈ idsR s o.op) := by
  have put : ∀ av, (s.put o.dst av).n = s.n ∧ (∀ d, o.dst = some d → (s.put o.dst av).sl = (d, avh (s.put o.dst av)) :: s.sl) ∧ (o.dst = none → (s.put o.dst av).sl = s.sl) ∧
      ∃ wr : Option (Nat × AO), (s.put o.dst av).hp = wr.toList ++ s.hp ∧ ∀ p, wr = some p → (isNw o.op = true ∧ o.dst = some p.1 ∧ lk s.hp p.1 = none) ∨ (isSt o.op = true ∧ p.1 ∈ idsR s o.op) := by
    intro av
    cases hd : o.dst with
    | none => exact ⟨rfl, fun d h => (by cases h), fun _ => rfl, none, rfl, fun p h => (by cases h)⟩
    | some d => exact ⟨rfl, fun d' h => (by cases h; rfl), fun h => (by cases h), none, rfl, fun p h => (by cases h)⟩
  cases h with
  | V av h hg hk => exact put av
  | B av h hg hk => exact put av
  | X av h hg hk => exact put av
  | G hg hk => exact put .dead
  | C h hc hf ha hg hk => exact put _
  | N ob h d hdst hfr hg hk =>
    refine ⟨rfl, fun d' h' => (by rw [hdst] at h'; cases h'; rfl), fun h' => (by rw [hdst] at h'; cases h'), some (d, ob), rfl, fun p hp => Or.inl ?_⟩
    cases hp
    exact ⟨evN_nw h, hdst, hfr⟩
  | S id ob h hdst hg =>
    refine ⟨rfl, fun d' h' => (by rw [hdst] at h'; cases h'), fun _ => rfl, some (id, ob), rfl, fun p hp => Or.inr ?_⟩
    cases hp
    exact evS_id h

open Classical in
/-- The objects, when the operations of D are done. -/
noncomputable def hpD (hp : List (Nat × AO)) (wr : Nat → Option (Nat × AO)) (D : Nat → Prop) : Nat → List (Nat × AO)
  | 0 => hp
  | m + 1 => if D m then (wr m).toList ++ hpD hp wr D m else hpD hp wr D m
theorem hpD_pos {hp : List (Nat × AO)} {wr : Nat → Option (Nat × AO)} {D : Nat → Prop} {m : Nat} (h : D m) : hpD hp wr D (m + 1) = (wr m).toList ++ hpD hp wr D m := if_pos h
theorem hpD_neg {hp : List (Nat × AO)} {wr : Nat → Option (Nat × AO)} {D : Nat → Prop} {m : Nat} (h : ¬ D m) : hpD hp wr D (m + 1) = hpD hp wr D m := if_neg h
theorem hpD_congr {hp : List (Nat × AO)} {wr : Nat → Option (Nat × AO)} {D D' : Nat → Prop} : ∀ {m : Nat}, (∀ k, k < m → (D k ↔ D' k)) → hpD hp wr D m = hpD hp wr D' m
  | 0, _ => rfl
  | m + 1, h => by
    have ih := hpD_congr (hp := hp) (wr := wr) (m := m) fun k hk => h k (by omega)
    by_cases e : D m
    · rw [hpD_pos e, hpD_pos ((h m (by omega)).1 e), ih]
    · rw [hpD_neg e, hpD_neg (fun e' => e ((h m (by omega)).2 e')), ih]
theorem hpD_lk {hp : List (Nat × AO)} {wr : Nat → Option (Nat × AO)} {D D' : Nat → Prop} {id : Nat} : ∀ {m : Nat}, (∀ k p, k < m → wr k = some p → p.1 = id → (D k ↔ D' k)) → lk (hpD hp wr D m) id = lk (hpD hp wr D' m) id
  | 0, _ => rfl
  | m + 1, h => by
    have ih := hpD_lk (hp := hp) (wr := wr) (m := m) fun k p hk => h k p (by omega)
    have one : ∀ (E : Nat → Prop), (∀ p, wr m = some p → p.1 ≠ id) → lk (hpD hp wr E (m + 1)) id = lk (hpD hp wr E m) id := by
      intro E hne
      by_cases e : E m
      · rw [hpD_pos e]
        cases hw : wr m with
        | none => rfl
        | some p =>
          obtain ⟨a, b⟩ := p
          show lk ((a, b) :: hpD hp wr E m) id = _
          rw [lk_cons, if_neg (hne (a, b) hw)]
      · rw [hpD_neg e]
    by_cases hw : ∃ p, wr m = some p ∧ p.1 = id
    · obtain ⟨p, hp1, hp2⟩ := hw
      have hiff := h m p (by omega) hp1 hp2
      by_cases e : D m
      · rw [hpD_pos e, hpD_pos (hiff.1 e), hp1]
        show lk ((p.1, p.2) :: _) id = lk ((p.1, p.2) :: _) id
        rw [lk_cons, lk_cons, if_pos hp2, if_pos hp2]
      · rw [hpD_neg e, hpD_neg (fun e' => e (hiff.2 e')), ih]
    · have hne : ∀ p, wr m = some p → p.1 ≠ id := fun p h1 h2 => hw ⟨p, h1, h2⟩
      rw [one D hne, one D' hne, ih]
theorem Core.lkc {ρ : Rho} {B0 : BS} {w0 w : World} {hp hp' : List (Nat × AO)} (h : Core ρ B0 w0 w hp) (hl : ∀ id, (∃ v, ρ id = some v) → lk hp id = lk hp' id) : Core ρ B0 w0 w hp' :=
  ⟨h.bel, h.b0, fun id v hv => by rw [← hl id ⟨v, hv⟩]; exact h.obj id v hv, h.dist⟩

/-- The states on the way. -/
structure WayS (ops : Array Oper) (l : List Oper) (n : Nat) (st : Nat → AS) (wr : Nat → Option (Nat × AO)) : Prop where
  nn : ∀ i : Nat, i ≤ n → (st i).n = (st 0).n
  at1 : ∀ i, i ≤ n → ∀ t k o, k < i → l[k]? = some o → o.dst = some t → lk (st i).sl t = some (avh (st (k + 1)))
  at2 : ∀ i, i ≤ n → ∀ t, (∀ k o, k < i → l[k]? = some o → o.dst ≠ some t) → lk (st i).sl t = lk (st 0).sl t
  hp : ∀ i, i ≤ n → hpD (st 0).hp wr (fun k => k < i) n = (st i).hp
  wrs : ∀ i o p, i < n → l[i]? = some o → wr i = some p → (isNw o.op = true ∧ o.dst = some p.1 ∧ lk (st i).hp p.1 = none) ∨ (isSt o.op = true ∧ p.1 ∈ idO st i o)
  up : ∀ i, i < n → (st (i + 1)).hp = (wr i).toList ++ (st i).hp
  grow : ∀ i, i ≤ n → ∀ id, (lk (st 0).hp id).isSome = true → (lk (st i).hp id).isSome = true

theorem wayS {l : List Oper} {n : Nat} {st : Nat → AS} (hl : n ≤ l.length) (hone : ∀ i k oi ok d, i < n → k < n → l[i]? = some oi → l[k]? = some ok → k ≠ i → ok.dst = some d → oi.dst ≠ some d) (h : ∀ i o, i < n → l[i]? = some o → OpS P T ops o (st i) (st (i + 1))) : ∃ wr, WayS ops l n st wr := by
  have step : ∀ i, ∃ wr : Option (Nat × AO), i < n → (st (i + 1)).n = (st i).n ∧ (∀ o, l[i]? = some o → (∀ d, o.dst = some d → (st (i + 1)).sl = (d, avh (st (i + 1))) :: (st i).sl) ∧ (o.dst = none → (st (i + 1)).sl = (st i).sl)) ∧ (st (i + 1)).hp = wr.toList ++ (st i).hp ∧
      ∀ o p, l[i]? = some o → wr = some p → (isNw o.op = true ∧ o.dst = some p.1 ∧ lk (st i).hp p.1 = none) ∨ (isSt o.op = true ∧ p.1 ∈ idO st i o) := by
    intro i
    by_cases hi : i < n
    · have ho : l[i]? = some (l[i]'(by omega)) := by simp
      obtain ⟨h1, h2, h3, wr, h4, h5⟩ := (OpS.shape2 (h i _ hi ho))
      refine ⟨wr, fun _ => ⟨h1, fun o ho' => ?_, h4, fun o p ho' hp => ?_⟩⟩
      · rw [ho] at ho'; cases ho'; exact ⟨h2, h3⟩
      · rw [ho] at ho'; cases ho'; exact h5 p hp
    · exact ⟨none, fun h => absurd h hi⟩
  obtain ⟨wr, hw⟩ := Classical.skolem.1 step
  have up : ∀ i, i < n → (st (i + 1)).hp = (wr i).toList ++ (st i).hp := fun i hi => (hw i hi).2.2.1
  have hat : ∀ i, i ≤ n → ∀ t, (∀ k o, k < i → l[k]? = some o → o.dst = some t → lk (st i).sl t = some (avh (st (k + 1)))) ∧ ((∀ k o, k < i → l[k]? = some o → o.dst ≠ some t) → lk (st i).sl t = lk (st 0).sl t) := by
    intro i
    induction i with
    | zero => intro _ t; exact ⟨fun k o hk => absurd hk (Nat.not_lt_zero _), fun _ => rfl⟩
    | succ i ih =>
      intro hi t
      obtain ⟨ih1, ih2⟩ := ih (by omega) t
      have ho : l[i]? = some (l[i]'(by omega)) := by simp
      obtain ⟨hs1, hs2⟩ := (hw i (by omega)).2.1 _ ho
      cases hd : (l[i]'(by omega)).dst with
      | none =>
        rw [hs2 hd]
        refine ⟨fun k o hk hko hkd => ?_, fun hno => ih2 fun k o hk hko => hno k o (by omega) hko⟩
        by_cases hki : k = i
        · subst hki; rw [ho] at hko; cases hko; rw [hd] at hkd; cases hkd
        · exact ih1 k o (by omega) hko hkd
      | some d =>
        rw [hs1 d hd, lk_cons]
        refine ⟨fun k o hk hko hkd => ?_, fun hno => ?_⟩
        · by_cases hki : k = i
          · subst hki; rw [ho] at hko; cases hko; rw [hd] at hkd; cases hkd; rw [if_pos rfl]
          · rw [if_neg (fun e => hone i k _ o t (by omega) (by omega) ho hko hki hkd (by rw [hd, e]))]
            exact ih1 k o (by omega) hko hkd
        · rw [if_neg (fun e => hno i _ (by omega) ho (by rw [hd, e]))]
          exact ih2 (fun k o hk hko => hno k o (by omega) hko)
  have hp1 : ∀ i, i ≤ n → ∀ m, m ≤ n → hpD (st 0).hp wr (fun k => k < i) m = (st (min i m)).hp := by
    intro i hi m
    induction m with
    | zero => intro _; rw [Nat.min_zero]; rfl
    | succ m ih =>
      intro hm
      by_cases e : m < i
      · rw [hpD_pos (D := fun k => k < i) e, ih (by omega), Nat.min_eq_right (by omega), Nat.min_eq_right (by omega), up m (by omega)]
      · rw [hpD_neg (D := fun k => k < i) e, ih (by omega), Nat.min_eq_left (by omega), Nat.min_eq_left (by omega)]
  refine ⟨wr, ⟨fun i => ?_, fun i hi t k o => (hat i hi t).1 k o, fun i hi t => (hat i hi t).2, fun i hi => by rw [hp1 i hi n (Nat.le_refl _), Nat.min_eq_left hi], fun i o p hi ho hp => (hw i hi).2.2.2 o p ho hp, up, fun i => ?_⟩⟩
  · induction i with
    | zero => intro _; rfl
    | succ i ih => intro hi; rw [(hw i (by omega)).1, ih (by omega)]
  · induction i with
    | zero => intro _ id h; exact h
    | succ i ih =>
      intro hi id h
      rw [up i (by omega)]
      cases hwi : wr i with
      | none => exact ih (by omega) id h
      | some p =>
        show (lk ((p.1, p.2) :: (st i).hp) id).isSome = true
        rw [lk_cons]
        split
        · rfl
        · exact ih (by omega) id h

/-- What holds when the operations of D are done. -/
def JS (l : List Oper) (n : Nat) (st : Nat → AS) (wr : Nat → Option (Nat × AO)) (B0 : BS) (w0 : World) (a0 : Act) (D : Nat → Prop) (vs : Nat → Value) (w : World) : Prop :=
  ∃ ρ, Core ρ B0 w0 w (hpD (st 0).hp wr D n) ∧ (∀ id v, ρ id = some v → (lk (st 0).hp id).isSome = true ∨ ∃ k o, k < n ∧ D k ∧ l[k]? = some o ∧ o.dst = some id) ∧
    (∀ k p, k < n → D k → wr k = some p → ∃ v, ρ p.1 = some v) ∧
    (∀ t av, lk (st 0).sl t = some av → (∀ k o, k < n → l[k]? = some o → D k → o.dst ≠ some t) → ∃ v, a0.tmps[t]? = some v ∧ AR ρ (Bd ρ B0) w av v) ∧ (∀ k o d, k < n → D k → l[k]? = some o → o.dst = some d → AR ρ (Bd ρ B0) w (avh (st (k + 1))) (vs k))

theorem JS.congr {l : List Oper} {n : Nat} {st : Nat → AS} {wr : Nat → Option (Nat × AO)} {B0 : BS} {w0 : World} {a0 : Act} (D D' : Nat → Prop) (vs vs' : Nat → Value) (w : World) (h : JS l n st wr B0 w0 a0 D vs w) (hD : ∀ k, k < n → (D k ↔ D' k)) (hv : ∀ k, k < n → D k → vs k = vs' k) : JS l n st wr B0 w0 a0 D' vs' w := by
  obtain ⟨ρ, h1, h2, h5, h3, h4⟩ := h
  refine ⟨ρ, hpD_congr hD ▸ h1, fun id v h => ?_, fun k p hk hDk => h5 k p hk ((hD k hk).2 hDk), fun t av ht hno => h3 t av ht (fun k o hk ho hDk => hno k o hk ho ((hD k hk).1 hDk)), fun k o d hk hDk ho hd => ?_⟩
  · rcases h2 id v h with h | ⟨k, o, hk, hDk, h⟩
    · exact Or.inl h
    · exact Or.inr ⟨k, o, hk, (hD k hk).1 hDk, h⟩
  · rw [← hv k hk ((hD k hk).2 hDk)]
    exact h4 k o d hk ((hD k hk).2 hDk) ho hd

/-- One more value (if it goes anywhere); the objects' values are the same ones. -/
theorem JS.same {l : List Oper} {n : Nat} {st : Nat → AS} {wr : Nat → Option (Nat × AO)} {B0 : BS} {w0 : World} {a0 : Act} {D : Nat → Prop} {vs : Nat → Value} {w w' : World} {i : Nat} {v : Value} {ρ : Rho} {oi : Oper} (hoi : l[i]? = some oi) (hb : Keep (Bd ρ B0) w w') (h1 : Core ρ B0 w0 w' (hpD (st 0).hp wr (andI D i) n))
    (h2 : ∀ id v, ρ id = some v → (lk (st 0).hp id).isSome = true ∨ ∃ k o, k < n ∧ D k ∧ l[k]? = some o ∧ o.dst = some id)
    (h5 : ∀ k p, k < n → D k → wr k = some p → ∃ v, ρ p.1 = some v) (h6 : ∀ p, wr i = some p → ∃ v, ρ p.1 = some v)
    (h3 : ∀ t av, lk (st 0).sl t = some av → (∀ k o, k < n → l[k]? = some o → D k → o.dst ≠ some t) → ∃ v, a0.tmps[t]? = some v ∧ AR ρ (Bd ρ B0) w av v)
    (h4 : ∀ k o d, k < n → D k → l[k]? = some o → o.dst = some d → AR ρ (Bd ρ B0) w (avh (st (k + 1))) (vs k)) (hv : ∀ d, oi.dst = some d → AR ρ (Bd ρ B0) w' (avh (st (i + 1))) v) (hni : ¬ D i) : JS l n st wr B0 w0 a0 (andI D i) (setI vs i v) w' := by
  have mvv : ∀ {av : AV} {c : Value}, AR ρ (Bd ρ B0) w av c → AR ρ (Bd ρ B0) w' av c := fun h => AR.mv hb (fun _ _ h => h) (fun _ _ => rfl) h
  refine ⟨ρ, h1, fun id u h => ?_, fun k p hk hDk hp => ?_, fun t av ht hno => ?_, fun k o d hk hDk ho hd => ?_⟩
  · rcases h2 id u h with h | ⟨k, o, hk, hDk, h⟩
    · exact Or.inl h
    · exact Or.inr ⟨k, o, hk, Or.inl hDk, h⟩
  · rcases hDk with hDk | rfl
    · exact h5 k p hk hDk hp
    · exact h6 p hp
  · obtain ⟨u, h7, h8⟩ := h3 t av ht (fun k o hk ho hDk => hno k o hk ho (Or.inl hDk))
    exact ⟨u, h7, mvv h8⟩
  · unfold setI
    by_cases e : k = i
    · subst e
      rw [hoi] at ho; cases ho
      rw [if_pos rfl]; exact hv d hd
    · rw [if_neg e]
      rcases hDk with hDk | hDk
      · exact mvv (h4 k o d hk hDk ho hd)
      · exact absurd hDk e

set_option maxHeartbeats 1000000 in
/-- A REGION THAT DRAWS, WITH STORES: n operations in the order of the text, each a value or a store; then the others one after another. -/
theorem cDrawS (hT : TOk P T) {id : Nat} {l : List Oper} (n : Nat) {s : AS} (hm : P.follows .mixedOrders = true) (hB : allB l.toArray n s.n = true) (h : ChS P T l.toArray (fun s1 => AL P l.toArray Q (l.drop n) s1) 0 [] (l.take n) s) : AW P (.region id l.toArray true) Q s := by
  rintro B0 w0 a0 w ⟨ρ0, hc0, hn0, hdf0, hs0⟩
  have hB' := hB
  simp only [allB, Bool.and_eq_true, decide_eq_true_eq, Bool.or_eq_true] at hB'
  obtain ⟨⟨⟨⟨hsel, hreg⟩, hnle⟩, _⟩, _⟩ := hB'
  have hr := regB_ok hreg
  have hnl : n ≤ l.length := by simpa using hnle
  obtain ⟨st, hst0, kk, hop0, _, _, hcf0, hnw0⟩ := h.st
  have hlen : (l.take n).length = n := by simp; omega
  rw [hlen] at kk
  have htk : ∀ {i : Nat} {o : Oper}, i < n → l[i]? = some o → (l.take n)[i]? = some o := fun hi ho => by rw [List.getElem?_take, if_pos hi]; exact ho
  have hop : ∀ i o, i < n → l[i]? = some o → OpS P T l.toArray o (st i) (st (i + 1)) := fun i o hi ho => hop0 i o (htk hi ho)
  have hcf : ∀ i o k ok, k < i → i < n → l[i]? = some o → l[k]? = some ok → (isSt o.op = true ∨ isSt ok.op = true) → ∀ id ∈ idO st i o, id ∈ idO st k ok → reach l.toArray 6 o k = true := fun i o k ok hk hi ho hok hs id h1 h2 => by
    have := hcf0 i o k ok hk (htk hi ho) (htk (by omega) hok) hs id h1 h2
    rwa [Nat.zero_add] at this
  have hnw : ∀ i o k ok, k < i → i < n → l[i]? = some o → l[k]? = some ok → isNw o.op = true → ∀ d, o.dst = some d → ¬ d ∈ idO st k ok := fun i o k ok hk hi ho hok => hnw0 i o k ok hk (htk hi ho) (htk (by omega) hok)
  have hone : ∀ i k oi ok d, i < n → k < n → l[i]? = some oi → l[k]? = some ok → k ≠ i → ok.dst = some d → oi.dst ≠ some d := fun i k oi ok d hi hk hoi hok => hr.one i k oi ok d hi hk (by simpa using hoi) (by simpa using hok)
  obtain ⟨wr, hway⟩ := wayS hnl hone hop
  subst hst0
  refine wp_region_J (J := JS l n st wr B0 w0 a0) n (st 0).n hm hn0 hdf0 hB (fun D D' vs vs' w h => JS.congr D D' vs vs' w h) ?_ ?_ ?_
  · have hK : Keep (Bd ρ0 B0) w w.drew := ⟨Nat.le_refl _, fun _ _ _ => rfl⟩
    have hz : hpD (st 0).hp wr (fun _ => False) n = (st 0).hp := (hpD_congr (D' := fun k => k < 0) fun k _ => by simp).trans (hway.hp 0 (Nat.zero_le _))
    refine ⟨ρ0, ⟨hc0.bel.drew, hc0.b0, fun id v h => ?_, hc0.dist⟩, fun id v h => ?_, fun k p _ h => h.elim, fun t av ht _ => ?_, fun k o d _ h => h.elim⟩
    · obtain ⟨ob, h1, h2⟩ := hc0.obj id v h
      exact ⟨ob, by rw [hz]; exact h1, h2.mv hK (fun _ _ hb => hb) (fun _ _ => rfl)⟩
    · obtain ⟨ob, h1, h2⟩ := hc0.obj id v h
      exact Or.inl (by rw [h1]; rfl)
    · obtain ⟨v, h1, h2⟩ := hs0 t av ht
      exact ⟨v, h1, AR.mv hK (fun _ _ hb => hb) (fun _ _ => rfl) h2⟩
  · intro i o hi ho D vs w' hni hwait hclo hJ
    have ho' : l[i]? = some o := by simpa using ho
    have hA := puts_inv (a0 := a0) (ops := l.toArray) rfl hr hn0 hnl vs i (Nat.le_of_lt hi)
    obtain ⟨ρ, hc, h2, h5, h3, h4⟩ := hJ
    have hSl : Slots ρ (Bd ρ B0) w' (pickS (st i).sl (o.looksAt l.toArray)) (putsR (l.take i) 0 a0 vs) := by
      intro t av ht
      obtain ⟨hts, hlk⟩ := pickS_mem _ t av ht
      by_cases hex : ∃ k ok, k < i ∧ l[k]? = some ok ∧ ok.dst = some t
      · obtain ⟨k, ok, hk, hok, hkd⟩ := hex
        have hok' : l.toArray[k]? = some ok := by simpa using hok
        rw [hway.at1 i (Nat.le_of_lt hi) t k ok hk hok hkd] at hlk
        cases hlk
        refine ⟨vs k, hA.wr k ok t (by omega) hok' hk hkd, h4 k ok t (by omega) ?_ hok hkd⟩
        rcases hr.look i k o ok t hi (by omega) ho hok' (by omega) hkd hts with ⟨_, h⟩ | ⟨h, _⟩
        · exact hwait k h
        · omega
      · have hno : ∀ k ok, k < i → l[k]? = some ok → ok.dst ≠ some t := fun k ok hk hok hkd => hex ⟨k, ok, hk, hok, hkd⟩
        rw [hway.at2 i (Nat.le_of_lt hi) t hno] at hlk
        obtain ⟨v, h7, h8⟩ := h3 t av hlk (fun k ok hk hok hDk hkd => by
          have hok' : l.toArray[k]? = some ok := by simpa using hok
          by_cases hki : k = i
          · subst hki; exact hni hDk
          · rcases hr.look i k o ok t hi hk ho hok' hki hkd hts with ⟨h, _⟩ | ⟨_, h⟩
            · exact hno k ok h hok hkd
            · exact hni (hclo k ok hok' hDk i h))
        refine ⟨v, ?_, h8⟩
        rw [hA.no t (fun k ok hk hok hki => hno k ok hki (by simpa using hok))]
        exact h7
    -- the objects that it speaks of are as the text has them
    have hidρ : ∀ id ∈ idO st i o, ∃ v, ρ id = some v := by
      intro id hid
      obtain ⟨x, hx, hg⟩ := List.mem_filterMap.1 (idsR_of hid)
      cases hgx : geto (st i) x with
      | none => rw [hgx] at hg; cases hg
      | some av =>
        rw [hgx] at hg
        have hav : avId av = some id := hg
        cases x with
        | tmp t =>
          have hm : t ∈ o.looksAt l.toArray := List.mem_append_left _ (List.mem_filterMap.2 ⟨.tmp t, by simpa using hx, rfl⟩)
          obtain ⟨v, _, h8⟩ := hSl t av (by rw [lk_pickS _ t hm]; exact hgx)
          exact avId_R hav h8
        | const v => cases v <;> simp only [geto, Option.some.injEq, reduceCtorEq] at hgx <;> (subst hgx; cases hav)
        | func f => simp only [geto, Option.some.injEq] at hgx; subst hgx; cases hav
        | global g => simp [geto] at hgx
    have hiff : ∀ id ∈ idO st i o, ∀ k p, k < n → wr k = some p → p.1 = id → (D k ↔ k < i) := by
      intro id hid k p hk hp hpid
      have hok : l[k]? = some (l[k]'(by omega)) := by simp
      have hok' : l.toArray[k]? = some (l[k]'(by omega)) := by simp
      rcases hway.wrs k _ p hk hok hp with ⟨hN, hdk, hnone⟩ | ⟨hS, hmem⟩
      · rw [hpid] at hdk hnone
        obtain ⟨v, hv⟩ := hidρ id hid
        have hDk : D k := by
          rcases h2 id v hv with h | ⟨k', o', hk', hDk', ho'', hd'⟩
          · have := hway.grow k (Nat.le_of_lt hk) id h
            rw [hnone] at this; cases this
          · by_cases e : k' = k
            · subst e; exact hDk'
            · exact absurd hdk (hone k k' _ o' id hk hk' hok ho'' e hd')
        refine ⟨fun _ => ?_, fun _ => hDk⟩
        rcases Nat.lt_trichotomy k i with h | h | h
        · exact h
        · subst h; exact absurd hDk hni
        · exact absurd hid (hnw k _ i o h hk hok ho' hN id hdk)
      · rw [hpid] at hmem
        rcases Nat.lt_trichotomy k i with h | h | h
        · exact ⟨fun _ => h, fun _ => reach_ok hclo 6 o k hwait (hcf i o k _ h hi ho' hok (Or.inr hS) id hid hmem)⟩
        · subst h; exact ⟨fun h => absurd h hni, fun h => absurd h (Nat.lt_irrefl _)⟩
        · exact ⟨fun hDk => absurd (reach_ok hclo 6 _ i (hclo k _ hok' hDk) (hcf k _ i o h hk hok ho' (Or.inl hS) id hmem hid)) hni, fun h' => by omega⟩
    have hlkD : ∀ id ∈ idO st i o, lk (st i).hp id = lk (hpD (st 0).hp wr D n) id := by
      intro id hid
      rw [← hway.hp i (Nat.le_of_lt hi)]
      exact (hpD_lk fun k p hk hp hpid => hiff id hid k p hk hp hpid).symm
    let s2 : AS := ⟨(st i).n, pickS (st i).sl (o.looksAt l.toArray), hpD (st 0).hp wr D n⟩
    have hget : ∀ x ∈ o.op.operands, geto (st i) x = geto s2 x := by
      intro x hx
      cases x with
      | tmp t =>
        have hm : t ∈ o.looksAt l.toArray := List.mem_append_left _ (List.mem_filterMap.2 ⟨.tmp t, by simpa using hx, rfl⟩)
        exact (lk_pickS _ t hm).symm
      | const v => cases v <;> rfl
      | _ => rfl
    have hg' : gst l.toArray (st i) o = gst l.toArray s2 o := gst_congr (fun t ht => (lk_pickS _ t ht).symm)
    have hAd : (putsR (l.take i) 0 a0 vs).defers = [] := hA.defs.trans hdf0
    have hdef : ∀ v, ((putsR (l.take i) 0 a0 vs).put o.dst v).defers = [] := fun v => by cases hd : o.dst <;> exact hAd
    have hval : ∀ v d, o.dst = some d → Am.valOf o ((putsR (l.take i) 0 a0 vs).put o.dst v) = v := fun v d hd => Am.valOf_put hd (by rw [hA.size, hn0]; exact hr.dst i o d hi ho hd)
    have hO := hop i o hi ho'
    have hsh := OpS.shape2 hO
    have hwri : ∀ {hp'}, (st (i + 1)).hp = hp' → hp' = (st i).hp → wr i = none := by
      intro hp' e1 e2
      have := hway.up i hi
      rw [e1, e2] at this
      cases hw : wr i with
      | none => rfl
      | some p => rw [hw] at this; have h9 := congrArg List.length this; simp at h9
    have hnone : wr i = none → Core ρ B0 w0 w' (hpD (st 0).hp wr (andI D i) n) := fun hw => Core.lkc hc fun id _ => hpD_lk fun k p hk hp hpid => by
      unfold andI
      constructor
      · exact Or.inl
      · rintro (h | rfl)
        · exact h
        · rw [hw] at hp; cases hp
    have fin : ∀ {w2 : World} {v : Value} {av : AV}, st (i + 1) = (st i).put o.dst av → Below w'.heap.size w' w2 → AR ρ (Bd ρ B0) w2 av v → JS l n st wr B0 w0 a0 (andI D i) (setI vs i (Am.valOf o ((putsR (l.take i) 0 a0 vs).put o.dst v))) w2 := by
      intro w2 v av he hb hv
      have hw : wr i = none := hwri (hp' := ((st i).put o.dst av).hp) (by rw [he]) (by cases o.dst <;> rfl)
      refine JS.same ho' (.of_below hb) ((hnone hw).below hb) h2 h5 (fun p hp => by rw [hw] at hp; cases hp) h3 h4 (fun d hd => ?_) hni
      rw [hval v d hd]
      have : avh (st (i + 1)) = av := by rw [he, hd]; rfl
      rw [this]; exact hv
    obtain ⟨s3, hs3⟩ : ∃ s3, s3 = st (i + 1) := ⟨_, rfl⟩
    rw [← hs3] at hO
    cases hO with
    | V av h hg hk =>
      rw [hg'] at hg
      rw [evV_congr2 (T := T) (op := o.op) (s := st i) (s' := s2) hget hlkD] at h
      obtain ⟨v, hrun, hv⟩ := evV_ok (s := s2) hT hSl hc (fun _ _ h => h) h
      exact ifW_pos (gst_ok (s := s2) hg hSl) (wp_value' (a := a0) hrun ⟨hdef v, fin hs3.symm (Below.refl _ _) hv⟩)
    | B av h hg hk =>
      rw [hg'] at hg
      rw [evB_congr (T := T) (op := o.op) (s := st i) (s' := s2) hget] at h
      obtain ⟨v, w2, hrun, hb, hv⟩ := evB_ok (s := s2) hT hSl hc h
      exact ifW_pos (gst_ok (s := s2) hg hSl) (wp_value' (a := a0) hrun ⟨hdef v, fin hs3.symm hb hv⟩)
    | X av h hg hk =>
      rw [hg'] at hg
      obtain ⟨v, hrun, hv⟩ := h ρ (Bd ρ B0) w' (putsR (l.take i) 0 a0 vs) (fun x hx av' hgx => geto_ok (s := s2) hSl ((hget x hx).symm.trans hgx))
      exact ifW_pos (gst_ok (s := s2) hg hSl) (wp_value' (a := a0) hrun ⟨hdef v, fin hs3.symm (Below.refl _ _) hv⟩)
    | G hg hk =>
      rw [hg'] at hg
      refine ifW_neg (gst_ok (s := s2) hg hSl) ?_
      have hw : wr i = none := hwri (hp' := ((st i).put o.dst .dead).hp) (by rw [← hs3]) (by cases o.dst <;> rfl)
      refine JS.same ho' (.of_below (Below.refl _ _)) (hnone hw) h2 h5 (fun p hp => by rw [hw] at hp; cases hp) h3 h4 (fun d hd => ?_) hni
      have : avh (st (i + 1)) = .dead := by rw [← hs3, hd]; rfl
      rw [this]; trivial
    | C h hcl hf ha hg hk =>
      rename_i c f cap ds res
      rw [hg'] at hg
      have hop' : o.op = .call c := by
        unfold callOf at hcl
        split at hcl
        · rename_i h; cases hcl; exact h
        · cases hcl
      have hgc : ∀ x ∈ c.operands, geto (st i) x = geto s2 x := fun x hx => hget x (by rw [hop']; exact hx)
      rw [fnOf_congr hgc] at hf
      rw [getds_congr _ (fun x hx => hgc x (Array.mem_append.2 (Or.inr (by simpa using hx))))] at ha
      obtain ⟨us, hus, hrun⟩ := run_call (s := s2) hSl hcl hf ha h.en
      refine ifW_pos (gst_ok (s := s2) hg hSl) ?_
      unfold Oper.wp
      rw [hrun]
      refine (h.go (Bd ρ B0) w' us hc.bdlt hus).mono ?_
      rintro e w2 ⟨v, rfl, hb, hv⟩
      exact ⟨hdef v, fin hs3.symm hb hv.lift⟩
    | S id ob h hdst hg =>
      rw [hg'] at hg
      obtain ⟨hst, hid⟩ := evS_id h
      rw [evS_congr2 (T := T) (op := o.op) (s := st i) (s' := s2) hget hlkD] at h
      obtain ⟨w2, hrun, hc2, hk2⟩ := evS_ok (s := s2) hT hSl hc h
      refine ifW_pos (gst_ok (s := s2) hg hSl) ?_
      unfold Oper.wp
      rw [hrun]
      refine ⟨hdef _, ?_⟩
      have hup := hway.up i hi
      rw [← hs3] at hup
      have hwi : wr i = some (id, ob) := by
        cases hw : wr i with
        | none =>
          rw [hw] at hup
          have h9 := congrArg List.length hup
          simp at h9
        | some p =>
          rw [hw] at hup
          have h9 : (id, ob) :: (st i).hp = p :: (st i).hp := hup
          exact congrArg some (List.cons.inj h9).1.symm
      have hcc : Core ρ B0 w0 w2 (hpD (st 0).hp wr (andI D i) n) := by
        refine Core.lkc hc2 fun id' _ => ?_
        show lk ((id, ob) :: hpD (st 0).hp wr D n) id' = _
        rw [lk_cons]
        by_cases e : id = id'
        · subst e
          rw [if_pos rfl]
          have e1 : lk (hpD (st 0).hp wr (andI D i) n) id = lk (hpD (st 0).hp wr (fun k => k < i + 1) n) id := hpD_lk fun k p hk hp hpid => by
            unfold andI
            rw [hiff id hid k p hk hp hpid]
            omega
          rw [e1, hway.hp (i + 1) (by omega), ← hs3]
          show some ob = lk ((id, ob) :: (st i).hp) id
          rw [lk_cons, if_pos rfl]
        · rw [if_neg e]
          refine hpD_lk fun k p hk hp hpid => ?_
          unfold andI
          constructor
          · exact Or.inl
          · rintro (h | rfl)
            · exact h
            · rw [hwi] at hp; cases hp; exact absurd hpid e
      exact JS.same ho' hk2 hcc h2 h5 (fun p hp => by rw [hwi] at hp; cases hp; exact hidρ id hid) h3 h4 (fun d hd => by rw [hdst] at hd; cases hd) hni
    | N ob h d hd hfr hg hk =>
      rw [hg'] at hg
      have hnwo := evN_nw h
      rw [evN_congr (T := T) (op := o.op) (s := st i) (s' := s2) hget] at h
      obtain ⟨v, w2, hrun, hb, hvb, hob⟩ := evN_ok (s := s2) hT hSl hc h
      have hup := hway.up i hi
      rw [← hs3] at hup
      have hwi : wr i = some (d, ob) := by
        cases hw : wr i with
        | none =>
          rw [hw] at hup
          have h9 := congrArg List.length hup
          simp [AS.mk'] at h9
        | some p =>
          rw [hw] at hup
          have h9 : (d, ob) :: (st i).hp = p :: (st i).hp := hup
          exact congrArg some (List.cons.inj h9).1.symm
      have h0none : (lk (st 0).hp d).isSome = false := by
        cases hq : (lk (st 0).hp d).isSome with
        | false => rfl
        | true => have := hway.grow i (Nat.le_of_lt hi) d hq; rw [hfr] at this; cases this
      have hρ : ρ d = none := by
        cases hq : ρ d with
        | none => rfl
        | some u =>
          rcases h2 d u hq with h7 | ⟨k, ok, hk', hDk, hok, hkd⟩
          · rw [h0none] at h7; cases h7
          · by_cases hki : k = i
            · subst hki; exact absurd hDk hni
            · exact absurd hd (hone i k o ok d hi hk' ho' hok hki hkd)
      have hO2 := hob (Bd (up ρ d v) B0) (up_new hρ hvb)
      have hdiff : ∀ k p, k < n → wr k = some p → p.1 = d → (andI D i k ↔ k < i + 1) := by
        intro k p hk' hp hpd
        have hok : l[k]? = some (l[k]'(by omega)) := by simp
        by_cases e : k = i
        · subst e; exact ⟨fun _ => by omega, fun _ => Or.inr rfl⟩
        · have hnD : ¬ D k := fun hDk => by
            obtain ⟨u, hu⟩ := h5 k p hk' hDk hp
            rw [hpd, hρ] at hu; cases hu
          refine ⟨fun h => ?_, fun h => ?_⟩
          · rcases h with h | h
            · exact absurd h hnD
            · exact absurd h e
          · exfalso
            rcases hway.wrs k _ p hk' hok hp with ⟨_, hdk, _⟩ | ⟨_, hmem⟩
            · rw [hpd] at hdk
              exact hone i k o _ d hi hk' ho' hok e hdk hd
            · rw [hpd] at hmem
              exact hnw i o k _ (by omega) hi ho' hok hnwo d hd hmem
      have hlast : lk (hpD (st 0).hp wr (andI D i) n) d = some ob := by
        rw [hpD_lk (D' := fun k => k < i + 1) hdiff, hway.hp (i + 1) (by omega), ← hs3]
        show lk ((d, ob) :: (st i).hp) d = some ob
        rw [lk_cons, if_pos rfl]
      have hoth : ∀ id', id' ≠ d → lk (hpD (st 0).hp wr D n) id' = lk (hpD (st 0).hp wr (andI D i) n) id' := fun id' hne => hpD_lk fun k p hk' hp hpid => by
        unfold andI
        constructor
        · exact Or.inl
        · rintro (h | rfl)
          · exact h
          · rw [hwi] at hp; cases hp; exact absurd hpid.symm hne
      have hc2 : Core (up ρ d v) B0 w0 w2 (hpD (st 0).hp wr (andI D i) n) := hc.new hρ hb hvb (fun k ob' hk' hne => by rw [← hoth k hne]; exact hk') hlast hO2
      refine ifW_pos (gst_ok (s := s2) hg hSl) (wp_value' (a := a0) hrun ⟨hdef v, ?_⟩)
      refine ⟨_, hc2, fun id u hu => ?_, fun k p hk' hDk hp => ?_, fun t av ht hno => ?_, fun k ok d' hk' hDk hok hd' => ?_⟩
      · unfold up at hu
        split at hu
        · rename_i e
          exact Or.inr ⟨i, o, hi, Or.inr rfl, ho', by rw [hd, e]⟩
        · rcases h2 id u hu with h7 | ⟨k, ok, hk', hDk, h7⟩
          · exact Or.inl h7
          · exact Or.inr ⟨k, ok, hk', Or.inl hDk, h7⟩
      · unfold up
        split
        · exact ⟨_, rfl⟩
        · rename_i hne
          rcases hDk with hDk | rfl
          · exact h5 k p hk' hDk hp
          · rw [hwi] at hp; cases hp; exact absurd rfl hne
      · obtain ⟨u, h7, h8⟩ := h3 t av ht (fun k o hk ho hDk => hno k o hk ho (Or.inl hDk))
        exact ⟨u, h7, h8.new hρ hb hvb⟩
      · unfold setI
        by_cases e : k = i
        · subst e
          rw [if_pos rfl, hval v d hd, ← hs3]
          exact AO.av_ok hO2 (by simp [up])
        · rw [if_neg e]
          rcases hDk with hDk | hDk
          · exact (h4 k ok d' hk' hDk hok hd').new hρ hb hvb
          · exact absurd hDk e
  · intro D vs w' hall hJ
    obtain ⟨ρ, hc, h2, h5, h3, h4⟩ := hJ
    have hA := puts_inv (a0 := a0) (ops := l.toArray) rfl hr hn0 hnl vs n (Nat.le_refl _)
    have hhp : hpD (st 0).hp wr D n = (st n).hp := by
      rw [← hway.hp n (Nat.le_refl _)]
      exact hpD_congr fun k hk => ⟨fun _ => hk, fun _ => hall k hk⟩
    rw [hhp] at hc
    refine kk B0 w0 _ w' ⟨ρ, hc, ?_, hA.defs.trans hdf0, fun t av ht => ?_⟩
    · rw [hA.size, hn0, hway.nn n (Nat.le_refl _)]
    · by_cases hex : ∃ k ok, k < n ∧ l[k]? = some ok ∧ ok.dst = some t
      · obtain ⟨k, ok, hk, hok, hkd⟩ := hex
        rw [hway.at1 n (Nat.le_refl _) t k ok hk hok hkd] at ht
        cases ht
        exact ⟨vs k, hA.wr k ok t hk (by simpa using hok) hk hkd, h4 k ok t hk (hall k hk) hok hkd⟩
      · have hno : ∀ k ok, k < n → l[k]? = some ok → ok.dst ≠ some t := fun k ok hk hok hkd => hex ⟨k, ok, hk, hok, hkd⟩
        rw [hway.at2 n (Nat.le_refl _) t hno] at ht
        obtain ⟨v, h7, h8⟩ := h3 t av ht (fun k o hk hok _ => hno k o hk hok)
        refine ⟨v, ?_, h8⟩
        rw [hA.no t (fun k o hk hok _ => hno k o hk (by simpa using hok))]
        exact h7
end
end Go.Proofs.Ytoagihianelhjaa.Nd

/-
  A NUMBER'S TEXT, by the machine.
-/
set_option linter.unusedVariables false
set_option linter.unusedSimpArgs false
namespace Go.Proofs.Ytoagihianelhjaa
open Go.RowKit

theorem lr_bd {K : Nat} {s : Bool} {xs : List Nat} {B : BS} {w : World} {vs : List Value} (h : DsR B w [.agg [.v (.bool s), lr K xs]] vs) : val xs < B32 ^ K := by
  match vs, h with
  | [v], h =>
    obtain ⟨⟨cs, rfl, hl⟩, _⟩ := h
    match cs, hl with
    | [x, y], hl =>
      obtain ⟨_, h2, _⟩ := hl
      obtain ⟨a, n, c, rfl, hr, hK, _⟩ := lr_of h2
      exact lr_lt hr hK
set_option maxRecDepth 100000 in
set_option maxHeartbeats 4000000 in
theorem aPow {a : List Lf} {K M : Nat} {x k : Int} (ha : IsZ a K x) (hk1 : -9223372036854775808 ≤ k) (hk : k ≤ 256) (hM : 2 + k.toNat * K ≤ M) (hMM : M ≤ 100000000) : ACall Try.prog 27 [.agg a, .one (.v (.int .i64 k))] (.d (.agg (zn M (x ^ k.toNat)))) := by
  obtain ⟨sa, xa, ha, ea⟩ := ha
  refine ACall.le (dl (DV.z ha) (dl DV.same dl0)) AV.le.rfl ?_
  refine acallN hTT 17 [.cell 4 24] Try.func27 rfl rfl rfl rfl rfl ?_
  refine cSeq ?_
  refine cReg ?_
  refine mN hTT (.box 24 ([.v (.bool sa), lr K xa])) rfl rfl rfl ?_
  refine mN hTT (.box 24 ([.v (.bool false), .v (.slice none 0 0)])) rfl rfl rfl ?_
  refine mNil ?_
  refine tN ?_
  refine cSeq ?_
  refine cReg ?_
  refine mC0 (aOf (n := 1) (by decide) (by decide)) rfl rfl rfl ?_
  refine mN hTT (.box 24 ([.v (.bool false), .v (.slice none 0 0)])) rfl rfl rfl ?_
  refine mS hTT 5 (.box 24 (zn 2 1)) rfl ?_
  refine mNil ?_
  refine tN ?_
  refine cSeq ?_
  refine cSeq ?_
  refine cReg ?_
  refine mV hTT _ rfl ?_
  refine mV hTT (.d (.one (.v (.int .i64 k)))) (evi (by rw [if_neg (by decide)]; split <;> omega)) ?_
  refine mV hTT (.d (.one (.v (.int .i64 ((k.toNat : Nat) : Int))))) (evi (by rw [if_pos rfl]; split <;> omega)) ?_
  refine mV hTT _ rfl ?_
  refine mNil ?_
  refine tN ?_
  refine cBlock ?_
  refine cLoop (ι := Nat) (fun (i : Nat) => ⟨17, [(2, .ptr 2 0), (4, .ptr 4 0), (5, .ptr 5 0), (9, .d (.one (.v (.int .i64 ((k.toNat : Nat) : Int))))), (10, .d (.one (.v (.int .i64 ((i : Nat) : Int)))))], [(2, .box 24 ([.v (.bool sa), lr K xa])), (4, .box 24 ([.v (.bool false), .v (.slice none 0 0)])), (5, .box 24 (zn (2 + i * K) (x ^ i)))]⟩) (fun (i : Nat) => i ≤ k.toNat) (fun (i : Nat) => k.toNat - i) 0 (Nat.zero_le _) (wk (sl := [(2, .ptr 2 0), (4, .ptr 4 0), (5, .ptr 5 0), (9, .d (.one (.v (.int .i64 ((k.toNat : Nat) : Int))))), (10, .d (.one (.v (.int .i64 ((0 : Nat) : Int)))))]) (hp := [(2, .box 24 ([.v (.bool sa), lr K xa])), (4, .box 24 ([.v (.bool false), .v (.slice none 0 0)])), (5, .box 24 (zn (2 + 0 * K) (x ^ 0)))]) rfl ⟨hs rfl, hs rfl, hs rfl, hs rfl, hs rfl, trivial⟩ ⟨ho rfl, ho rfl, ho' rfl (leo_zn (by omega) (Int.pow_zero x).symm), trivial⟩ rfl) ?_
  rintro i hI
  have hi : i ≤ k.toNat := hI
  show AW Try.prog _ _ ⟨17, [(2, .ptr 2 0), (4, .ptr 4 0), (5, .ptr 5 0), (9, .d (.one (.v (.int .i64 ((k.toNat : Nat) : Int))))), (10, .d (.one (.v (.int .i64 ((i : Nat) : Int)))))], [(2, .box 24 ([.v (.bool sa), lr K xa])), (4, .box 24 ([.v (.bool false), .v (.slice none 0 0)])), (5, .box 24 (zn (2 + i * K) (x ^ i)))]⟩
  refine cSeq ?_
  refine cReg ?_
  refine mV hTT (.d (.one (.v (.bool (decide (((i : Nat) : Int) < ((k.toNat : Nat) : Int))))))) rfl ?_
  refine mNil ?_
  refine tN ?_
  refine cSeq ?_
  refine cCond rfl (fun hc1 => ?_) (fun hc1 => ?_)
  · skip
    refine cSkip ?_
    refine tN ?_
    refine cSeq ?_
    refine cBlock ?_
    have hik : i < k.toNat := by have h0 := of_decide_eq_true hc1; omega
    have e1 : (i + 1) * K = i * K + K := Nat.succ_mul i K
    have e2 : (i + 1) * K ≤ k.toNat * K := Nat.mul_le_mul_right K hik
    refine cReg ?_
    refine mV hTT (.d (.agg (zn (2 + i * K) (x ^ i)))) rfl ?_
    refine mV hTT (.d (.agg ([.v (.bool sa), lr K xa]))) rfl ?_
    refine mC0 (aMul (isz (2 + i * K) (x ^ i)) ⟨sa, xa, fun _ _ _ h => h, ea⟩ (M := ((2 + i * K) + K)) (by omega) (by omega) (by omega)) rfl rfl rfl ?_
    refine mS hTT 5 (.box 24 (zn ((2 + i * K) + K) ((x ^ i) * x))) rfl ?_
    refine mNil ?_
    refine bN ?_
    refine tN ?_
    refine cReg ?_
    refine mV hTT (.d (.one (.v (.int .i64 (IntKind.i64.wrap (((i : Nat) : Int) + 1)))))) rfl ?_
    refine mV hTT _ rfl ?_
    refine mNil ?_
    exact ⟨(i + 1), by omega, by omega, wk (sl := [(2, .ptr 2 0), (4, .ptr 4 0), (5, .ptr 5 0), (9, .d (.one (.v (.int .i64 ((k.toNat : Nat) : Int))))), (10, .d (.one (.v (.int .i64 (((i + 1) : Nat) : Int)))))]) (hp := [(2, .box 24 ([.v (.bool sa), lr K xa])), (4, .box 24 ([.v (.bool false), .v (.slice none 0 0)])), (5, .box 24 (zn (2 + (i + 1) * K) (x ^ (i + 1))))]) rfl ⟨hs rfl, hs rfl, hs rfl, hs rfl, hs' rfl (le_int (inc64 (by omega))), trivial⟩ ⟨ho rfl, ho rfl, ho' rfl (leo_zn (by omega) (Int.pow_succ x i).symm), trivial⟩ rfl⟩
  · skip
    refine cExit ?_
    refine tE ?_
    refine tE ?_
    refine bE ?_
    refine tN ?_
    refine cSeq ?_
    refine cReg ?_
    refine mV hTT (.d (.agg (zn (2 + i * K) (x ^ i)))) rfl ?_
    refine mS hTT 4 (.box 24 (zn (2 + i * K) (x ^ i))) rfl ?_
    refine mNil ?_
    refine tN ?_
    refine cRet ?_
    have hie : k.toNat = i := by have h0 := of_decide_eq_false hc1; omega
    subst hie
    exact rQ rfl (le_zn hM rfl)

theorem aPow9 : ACall Try.prog 27 [.agg (zn 2 10), .one (.v (.int .i64 9))] (.d (.agg (zn 20 1000000000))) := ACall.le (dl DV.same (dl DV.same dl0)) (le_zn (Nat.le_refl _) (by decide)) (aPow (isz 2 10) (M := 20) (by decide) (by decide) (by decide) (by decide))
set_option maxRecDepth 100000 in
set_option maxHeartbeats 4000000 in
theorem aDText {a : List Lf} {K : Nat} {z : Int} (ha : IsZ a K z) (hK : K ≤ 100000 := by decide) : ACall Try.prog 9 [.agg a] (.d (.one (.v (.string (txt z))))) := by
  obtain ⟨sa, xa, ha, ea⟩ := ha
  refine ACall.le (dl (DV.z ha) dl0) AV.le.rfl ?_
  refine ACall.fact (p := val xa < B32 ^ K) (enters Try.func9 rfl rfl) (fun B w vs h => lr_bd h) (fun hB => ?_)
  have hdl : dlen z.natAbs ≤ 10 * K := dlen_K (by rw [← ea, zv_abs]; exact hB)
  refine acallN hTT 89 [.tmp 2] Try.func9 rfl rfl rfl rfl rfl ?_
  refine cSeq ?_
  refine cReg ?_
  refine mN hTT (.box 24 ([.v (.bool sa), lr K xa])) rfl rfl rfl ?_
  refine mV hTT _ rfl ?_
  refine mNil ?_
  refine tN ?_
  refine cSeq ?_
  refine cReg ?_
  refine mV hTT (.d (.agg ([.v (.bool sa), lr K xa]))) rfl ?_
  refine mC0 (aNorm ⟨sa, xa, fun _ _ _ h => h, ea⟩ (by omega)) rfl rfl rfl ?_
  refine mS hTT 1 (.box 24 (zn K z)) rfl ?_
  refine mNil ?_
  refine tN ?_
  refine cSeq ?_
  refine cSeq ?_
  refine cReg ?_
  refine mV hTT (.d (.agg (zn K z))) rfl ?_
  refine mC0 (aZero (isn K z)) rfl rfl rfl ?_
  refine mNil ?_
  refine tN ?_
  refine cCond rfl (fun hc1 => ?_) (fun hc1 => ?_)
  · skip
    refine cSeq ?_
    refine cReg ?_
    refine mV hTT _ rfl ?_
    refine mNil ?_
    refine tN ?_
    refine cRet ?_
    refine tR ?_
    exact rQ rfl (le_str (txt_0 (of_decide_eq_true hc1)))
  · skip
    refine cSkip ?_
    refine tN ?_
    refine cSeq ?_
    have hz : z ≠ 0 := of_decide_eq_false hc1
    have hdp : 1 ≤ dlen z.natAbs := dlen_pos (by omega)
    have hl1 : 1 ≤ (rvT z).length := by rw [rvT_len]; omega
    have hl2 : (rvT z).length ≤ 10 * K + 1 := by rw [rvT_len]; split <;> omega
    refine cReg ?_
    refine mV hTT _ rfl ?_
    refine mNil ?_
    refine tN ?_
    refine cSeq ?_
    refine cReg ?_
    refine mV hTT (.d (.agg (zn K z))) rfl ?_
    refine mC0 (aAbs (isz K z) (by omega)) rfl rfl rfl ?_
    refine mC0 (aOf (n := 10) (by decide) (by decide)) rfl rfl rfl ?_
    refine mC0 (aPow9) rfl rfl rfl ?_
    refine mN hTT (.box 24 ([.v (.bool false), .v (.slice none 0 0)])) rfl rfl rfl ?_
    refine mN hTT (.box 24 ([.v (.bool false), .v (.slice none 0 0)])) rfl rfl rfl ?_
    refine mS hTT 4 (.box 24 (zn K (Int.natAbs z : Int))) rfl ?_
    refine mS hTT 5 (.box 24 (zn 20 1000000000)) rfl ?_
    refine mNil ?_
    refine tN ?_
    refine cSeq ?_
    refine cBlock ?_
    refine AW.wk (wkNil 3 3 5 1 (fun _ _ => .v undef) rfl rfl) ?_
    refine cLoop (ι := Nat × Nat) (fun (p : Nat × Nat) => match p with | (c, X) => ⟨89, [(1, .ptr 1 0), (2, .d (.one (.v (.string (⟨#[]⟩))))), (3, .own 3), (4, .ptr 4 0), (5, .ptr 5 0)], [(1, .box 24 (zn K z)), (4, .box 24 (zn (K + 1 + c) ((X : Nat) : Int))), (5, .box 24 (zn 20 1000000000)), (3, .row 5 1 (9 * c) (bel (fun i => 48 + z.natAbs / 10 ^ i % 10)))]⟩) (fun (p : Nat × Nat) => match p with | (c, X) => X = z.natAbs / 10 ^ (9 * c) ∧ 9 * c ≤ dlen z.natAbs + 8) (fun (p : Nat × Nat) => match p with | (c, X) => dlen z.natAbs + 9 - 9 * c) (0, z.natAbs) (⟨by rw [Nat.mul_zero, Nat.pow_zero, Nat.div_one], by omega⟩) (wk (sl := [(1, .ptr 1 0), (2, .d (.one (.v (.string (⟨#[]⟩))))), (3, .own 3), (4, .ptr 4 0), (5, .ptr 5 0)]) (hp := [(1, .box 24 (zn K z)), (4, .box 24 (zn (K + 1 + 0) ((z.natAbs : Nat) : Int))), (5, .box 24 (zn 20 1000000000)), (3, .row 5 1 (9 * 0) (bel (fun i => 48 + z.natAbs / 10 ^ i % 10)))]) rfl ⟨hs rfl, hs rfl, hs rfl, hs rfl, hs rfl, trivial⟩ ⟨ho rfl, ho' rfl (leo_zn (by omega) rfl), ho rfl, ho' rfl (leo_row0), trivial⟩ rfl) ?_
    rintro ⟨c, X⟩ hI
    obtain ⟨hX, hc9⟩ : X = z.natAbs / 10 ^ (9 * c) ∧ 9 * c ≤ dlen z.natAbs + 8 := hI
    show AW Try.prog _ _ ⟨89, [(1, .ptr 1 0), (2, .d (.one (.v (.string (⟨#[]⟩))))), (3, .own 3), (4, .ptr 4 0), (5, .ptr 5 0)], [(1, .box 24 (zn K z)), (4, .box 24 (zn (K + 1 + c) ((X : Nat) : Int))), (5, .box 24 (zn 20 1000000000)), (3, .row 5 1 (9 * c) (bel (fun i => 48 + z.natAbs / 10 ^ i % 10)))]⟩
    refine cSeq ?_
    refine cSeq ?_
    refine cReg ?_
    refine mV hTT (.d (.agg (zn (K + 1 + c) ((X : Nat) : Int)))) rfl ?_
    refine mC0 (aZero (isn (K + 1 + c) ((X : Nat) : Int))) rfl rfl rfl ?_
    refine mV hTT (.d (.one (.v (.bool (!(decide (((X : Nat) : Int) = 0))))))) rfl ?_
    refine mNil ?_
    refine tN ?_
    refine cCond rfl (fun hc2 => ?_) (fun hc2 => ?_)
    · skip
      refine cSkip ?_
      refine tN ?_
      refine cBlock ?_
      refine cSeq ?_
      have hX0 : X ≠ 0 := by intro e; rw [e] at hc2; exact absurd hc2 (by decide)
      have hcd : 9 * c < dlen z.natAbs := by rcases Nat.lt_or_ge (9 * c) (dlen z.natAbs) with h0 | h0; exact h0; exact absurd (hX.trans (dig_top h0)) hX0
      refine cReg ?_
      refine mN hTT (.box 24 ([.v (.bool false), .v (.slice none 0 0)])) rfl rfl rfl ?_
      refine mNil ?_
      refine tN ?_
      refine cSeq ?_
      refine cReg ?_
      refine mV hTT (.d (.agg (zn (K + 1 + c) ((X : Nat) : Int)))) rfl ?_
      refine mV hTT (.d (.agg (zn 20 1000000000))) rfl ?_
      refine mC0 (aDivMod (isz (K + 1 + c) ((X : Nat) : Int)) (isz 20 1000000000) (by decide) (M := (max (K + 1 + c) 1 + 1)) (by omega) (by omega) (by decide)) rfl rfl rfl ?_
      refine mV hTT _ rfl ?_
      refine mV hTT _ rfl ?_
      refine mV hTT _ rfl ?_
      refine mV hTT _ rfl ?_
      refine mS hTT 4 (.box 24 (zn (max (K + 1 + c) 1 + 1) (((X : Nat) : Int) / 1000000000))) rfl ?_
      refine mS hTT 6 (.box 24 (zn 20 (((X : Nat) : Int) % 1000000000))) rfl ?_
      refine mNil ?_
      refine tN ?_
      refine cSeq ?_
      refine cReg ?_
      refine mV hTT (.d (.agg (zn 20 (((X : Nat) : Int) % 1000000000)))) rfl ?_
      refine mC0 (aSmall (isz 20 (((X : Nat) : Int) % 1000000000)) (by omega) (by decide)) rfl rfl rfl ?_
      refine mV hTT _ rfl ?_
      refine mV hTT _ rfl ?_
      refine mV hTT _ rfl ?_
      refine mV hTT _ rfl ?_
      refine mV hTT _ rfl ?_
      refine mNil ?_
      refine tN ?_
      refine cSeq ?_
      refine cReg ?_
      refine mV hTT _ rfl ?_
      refine mNil ?_
      refine tN ?_
      refine cBlock ?_
      refine cLoop (ι := Nat × Nat) (fun (p : Nat × Nat) => match p with | (k, n) => ⟨89, [(1, .ptr 1 0), (2, .d (.one (.v (.string (⟨#[]⟩))))), (3, .own 3), (4, .ptr 4 0), (5, .ptr 5 0), (7, .d (.one (.v (.int .i64 ((n : Nat) : Int))))), (34, .d (.one (.v (.int .i64 ((k : Nat) : Int)))))], [(1, .box 24 (zn K z)), (4, .box 24 (zn (max (K + 1 + c) 1 + 1) (((X : Nat) : Int) / 1000000000))), (5, .box 24 (zn 20 1000000000)), (3, .row 5 1 (9 * c + k) (bel (fun i => 48 + z.natAbs / 10 ^ i % 10)))]⟩) (fun (p : Nat × Nat) => match p with | (k, n) => k ≤ 9 ∧ n = X % 1000000000 / 10 ^ k) (fun (p : Nat × Nat) => match p with | (k, n) => 9 - k) (0, (X % 1000000000)) (⟨by omega, by rw [Nat.pow_zero, Nat.div_one]⟩) (wk (sl := [(1, .ptr 1 0), (2, .d (.one (.v (.string (⟨#[]⟩))))), (3, .own 3), (4, .ptr 4 0), (5, .ptr 5 0), (7, .d (.one (.v (.int .i64 (((X % 1000000000) : Nat) : Int))))), (34, .d (.one (.v (.int .i64 ((0 : Nat) : Int)))))]) (hp := [(1, .box 24 (zn K z)), (4, .box 24 (zn (max (K + 1 + c) 1 + 1) (((X : Nat) : Int) / 1000000000))), (5, .box 24 (zn 20 1000000000)), (3, .row 5 1 (9 * c + 0) (bel (fun i => 48 + z.natAbs / 10 ^ i % 10)))]) rfl ⟨hs rfl, hs rfl, hs rfl, hs rfl, hs rfl, hs' rfl (le_int (by omega)), hs' rfl (le_int rfl), trivial⟩ ⟨ho rfl, ho rfl, ho rfl, ho' rfl (leo_b rfl (fun _ _ => rfl)), trivial⟩ rfl) ?_
      rintro ⟨k, n⟩ hI
      obtain ⟨hk, hn⟩ : k ≤ 9 ∧ n = X % 1000000000 / 10 ^ k := hI
      show AW Try.prog _ _ ⟨89, [(1, .ptr 1 0), (2, .d (.one (.v (.string (⟨#[]⟩))))), (3, .own 3), (4, .ptr 4 0), (5, .ptr 5 0), (7, .d (.one (.v (.int .i64 ((n : Nat) : Int))))), (34, .d (.one (.v (.int .i64 ((k : Nat) : Int)))))], [(1, .box 24 (zn K z)), (4, .box 24 (zn (max (K + 1 + c) 1 + 1) (((X : Nat) : Int) / 1000000000))), (5, .box 24 (zn 20 1000000000)), (3, .row 5 1 (9 * c + k) (bel (fun i => 48 + z.natAbs / 10 ^ i % 10)))]⟩
      refine cSeq ?_
      refine cReg ?_
      refine mV hTT (.d (.one (.v (.bool (decide (((k : Nat) : Int) < 9)))))) rfl ?_
      refine mNil ?_
      refine tN ?_
      refine cSeq ?_
      refine cCond rfl (fun hc3 => ?_) (fun hc3 => ?_)
      · skip
        refine cSkip ?_
        refine tN ?_
        refine cSeq ?_
        refine cBlock ?_
        refine cSeq ?_
        have hk9 : k < 9 := by have h0 := of_decide_eq_true hc3; omega
        have hnb : n < 1000000000 := by rw [hn]; exact Nat.lt_of_le_of_lt (Nat.div_le_self _ _) (Nat.mod_lt _ (by decide))
        have hdg : n % 10 = z.natAbs / 10 ^ (9 * c + k) % 10 := by rw [hn, hX]; exact group_dig _ _ _ hk9
        refine cReg ?_
        refine mV hTT _ rfl ?_
        refine mV hTT _ rfl ?_
        refine mV hTT (.d (.one (.v (.int .i64 ((n % 10 : Nat) : Int))))) rfl ?_
        refine mV hTT (.d (.one (.v (.int .i64 ((48 + n % 10 : Nat) : Int))))) (evi ((wr64 (by omega) (by omega)).trans (by omega))) ?_
        refine mV hTT (.d (.one (.v (.int .u8 ((48 + n % 10 : Nat) : Int))))) (evi (wr8 (by omega) (by omega))) ?_
        refine mB hTT (.d (.one (.row 1 1 (fun i' j' => (([.v (.int .u8 ((48 + n % 10 : Nat) : Int))])[i' * 1 + j']?).getD (.v undef))))) rfl ?_
        refine mA hTT (id := 3) (n := (9 * c + k)) (m := 1) (el := (bel (fun i => 48 + z.natAbs / 10 ^ i % 10))) (el2 := (fun i' j' => (([.v (.int .u8 ((48 + n % 10 : Nat) : Int))])[i' * 1 + j']?).getD (.v undef))) rfl rfl rfl (by show ((9 * c + k) + 1) * 1 ≤ 140737488355328; omega) (by omega) rfl rfl rfl rfl rfl rfl rfl rfl rfl rfl ?_
        refine mV hTT _ rfl ?_
        refine mNil ?_
        refine tN ?_
        refine cReg ?_
        refine mV hTT _ rfl ?_
        refine mV hTT (.d (.one (.v (.int .i64 (IntKind.i64.wrap (Int.tdiv (n : Int) 10)))))) rfl ?_
        refine mV hTT _ rfl ?_
        refine mNil ?_
        refine bN ?_
        refine tN ?_
        refine cReg ?_
        refine mV hTT (.d (.one (.v (.int .i64 ((k + 1 : Nat) : Int))))) (evi ((wr64 (by omega) (by omega)).trans (by omega))) ?_
        refine mV hTT _ rfl ?_
        refine mNil ?_
        exact ⟨((k + 1), (n / 10)), ⟨by omega, by rw [hn, Nat.div_div_eq_div_mul, Nat.pow_succ]⟩, by show 9 - (k + 1) < 9 - k; omega, wk (sl := [(1, .ptr 1 0), (2, .d (.one (.v (.string (⟨#[]⟩))))), (3, .own 3), (4, .ptr 4 0), (5, .ptr 5 0), (7, .d (.one (.v (.int .i64 (((n / 10) : Nat) : Int))))), (34, .d (.one (.v (.int .i64 (((k + 1) : Nat) : Int)))))]) (hp := [(1, .box 24 (zn K z)), (4, .box 24 (zn (max (K + 1 + c) 1 + 1) (((X : Nat) : Int) / 1000000000))), (5, .box 24 (zn 20 1000000000)), (3, .row 5 1 (9 * c + (k + 1)) (bel (fun i => 48 + z.natAbs / 10 ^ i % 10)))]) rfl ⟨hs rfl, hs rfl, hs rfl, hs rfl, hs rfl, hs' rfl (le_int (show IntKind.i64.wrap (Int.tdiv (n : Int) 10) = _ from by rw [show Int.tdiv (n : Int) 10 = ((n / 10 : Nat) : Int) from rfl]; exact wr64 (by omega) (by omega))), hs rfl, trivial⟩ ⟨ho rfl, ho rfl, ho rfl, ho' rfl (app_b rfl (fun _ _ => rfl) (by rw [hdg])), trivial⟩ rfl⟩
      · skip
        refine cExit ?_
        refine tE ?_
        refine tE ?_
        refine bE ?_
        refine bN ?_
        have hk9 : k = 9 := by have h0 := of_decide_eq_false hc3; omega
        exact ⟨((c + 1), (X / 1000000000)), ⟨by rw [hX, group_next], by omega⟩, by show dlen z.natAbs + 9 - 9 * (c + 1) < dlen z.natAbs + 9 - 9 * c; omega, wk (sl := [(1, .ptr 1 0), (2, .d (.one (.v (.string (⟨#[]⟩))))), (3, .own 3), (4, .ptr 4 0), (5, .ptr 5 0)]) (hp := [(1, .box 24 (zn K z)), (4, .box 24 (zn (K + 1 + (c + 1)) (((X / 1000000000) : Nat) : Int))), (5, .box 24 (zn 20 1000000000)), (3, .row 5 1 (9 * (c + 1)) (bel (fun i => 48 + z.natAbs / 10 ^ i % 10)))]) rfl ⟨hs rfl, hs rfl, hs rfl, hs rfl, hs rfl, trivial⟩ ⟨ho rfl, ho' rfl (leo_zn (by omega) (Int.natCast_ediv X 1000000000).symm), ho rfl, ho' rfl (leo_b (by omega) (fun _ _ => rfl)), trivial⟩ rfl⟩
    · skip
      refine cExit ?_
      refine tE ?_
      refine tE ?_
      refine bE ?_
      refine tN ?_
      refine cSeq ?_
      refine cBlock ?_
      have hX0 : X = 0 := Decidable.byContradiction fun e => by rw [decide_eq_false (p := ((X : Nat) : Int) = 0) (by omega)] at hc2; cases hc2
      have hd0 : dlen z.natAbs ≤ 9 * c := dlen_le (hX.symm.trans hX0)
      refine cLoop (ι := Nat) (fun (u : Nat) => ⟨89, [(1, .ptr 1 0), (2, .d (.one (.v (.string (⟨#[]⟩))))), (3, .own 3)], [(1, .box 24 (zn K z)), (3, .row 5 1 u (bel (fun i => 48 + z.natAbs / 10 ^ i % 10)))]⟩) (fun (u : Nat) => dlen z.natAbs ≤ u ∧ u ≤ 9 * c) (fun (u : Nat) => u) (9 * c) (⟨hd0, Nat.le_refl _⟩) (wk (sl := [(1, .ptr 1 0), (2, .d (.one (.v (.string (⟨#[]⟩))))), (3, .own 3)]) (hp := [(1, .box 24 (zn K z)), (3, .row 5 1 (9 * c) (bel (fun i => 48 + z.natAbs / 10 ^ i % 10)))]) rfl ⟨hs rfl, hs rfl, hs rfl, trivial⟩ ⟨ho rfl, ho rfl, trivial⟩ rfl) ?_
      rintro u hI
      obtain ⟨hu1, hu2⟩ : dlen z.natAbs ≤ u ∧ u ≤ 9 * c := hI
      show AW Try.prog _ _ ⟨89, [(1, .ptr 1 0), (2, .d (.one (.v (.string (⟨#[]⟩))))), (3, .own 3)], [(1, .box 24 (zn K z)), (3, .row 5 1 u (bel (fun i => 48 + z.natAbs / 10 ^ i % 10)))]⟩
      refine cSeq ?_
      refine cSeq ?_
      by_cases hdu : dlen z.natAbs < u
      · skip
        refine cReg ?_
        refine mV hTT _ rfl ?_
        refine mV hTT _ rfl ?_
        refine mV hTT (.d (.one (.v (.int .i64 (u : Int))))) rfl ?_
        refine mV hTT (.d (.one (.v (.int .i64 ((u - 1 : Nat) : Int))))) (evi ((wr64 (by omega) (by omega)).trans (by omega))) ?_
        refine mV hTT (.eptr 3 1 (u - 1) 0) (ixO (z := ((u - 1 : Nat) : Int)) (n := u) rfl rfl rfl rfl rfl rfl rfl (by omega) (by omega)) ?_
        refine mV hTT (.d (.one (.v (.int .u8 ((48 + z.natAbs / 10 ^ (u - 1) % 10 : Nat) : Int))))) rfl ?_
        refine mV hTT (.d (.one (.v (.bool true)))) (evb (beq_iff_eq.2 (by rw [dig_top (i := u - 1) (by omega)]; rfl))) ?_
        refine mNil ?_
        refine tN ?_
        refine cT rfl ?_
        refine cSkip ?_
        refine tN ?_
        refine cBlock ?_
        refine cReg ?_
        refine mV hTT _ rfl ?_
        refine mV hTT _ rfl ?_
        refine mV hTT (.d (.one (.v (.int .i64 (u : Int))))) rfl ?_
        refine mV hTT (.d (.one (.v (.int .i64 ((u - 1 : Nat) : Int))))) (evi ((wr64 (by omega) (by omega)).trans (by omega))) ?_
        refine mSh hTT (id := 3) (n := u) (h := (u - 1)) rfl rfl rfl (bndN rfl) (by omega) rfl rfl rfl rfl ?_
        refine mV hTT _ rfl ?_
        refine mNil ?_
        refine bN ?_
        exact ⟨(u - 1), ⟨by omega, by omega⟩, by show u - 1 < u; omega, wk (sl := [(1, .ptr 1 0), (2, .d (.one (.v (.string (⟨#[]⟩))))), (3, .own 3)]) (hp := [(1, .box 24 (zn K z)), (3, .row 5 1 (u - 1) (bel (fun i => 48 + z.natAbs / 10 ^ i % 10)))]) rfl ⟨hs rfl, hs rfl, hs rfl, trivial⟩ ⟨ho rfl, ho rfl, trivial⟩ rfl⟩
      · skip
        have hue : u = dlen z.natAbs := by omega
        have hdn := dig_top_ne (m := z.natAbs) (by omega)
        rw [← hue] at hdn
        refine cReg ?_
        refine mV hTT _ rfl ?_
        refine mV hTT _ rfl ?_
        refine mV hTT (.d (.one (.v (.int .i64 (u : Int))))) rfl ?_
        refine mV hTT (.d (.one (.v (.int .i64 ((u - 1 : Nat) : Int))))) (evi ((wr64 (by omega) (by omega)).trans (by omega))) ?_
        refine mV hTT (.eptr 3 1 (u - 1) 0) (ixO (z := ((u - 1 : Nat) : Int)) (n := u) rfl rfl rfl rfl rfl rfl rfl (by omega) (by omega)) ?_
        refine mV hTT (.d (.one (.v (.int .u8 ((48 + z.natAbs / 10 ^ (u - 1) % 10 : Nat) : Int))))) rfl ?_
        refine mV hTT (.d (.one (.v (.bool false)))) (evb (beq_eq_false_iff_ne.2 (fun e => hdn (by omega)))) ?_
        refine mNil ?_
        refine tN ?_
        refine cF rfl ?_
        refine cExit ?_
        refine tE ?_
        refine tE ?_
        refine bE ?_
        refine tN ?_
        refine cCut (ι := Unit) (fun _ => ⟨89, [(2, .d (.one (.v (.string (⟨#[]⟩))))), (3, .own 3)], [(3, .row 5 1 ((rvT z).length) (bel (fun j => (rvT z).getD j 0)))]⟩) (fun _ => True) ?_ (fun _ _ => ?_)
        · skip
          refine cSeq ?_
          subst hue
          by_cases hng : z < 0
          · skip
            refine cReg ?_
            refine mV hTT (.ptr 1 0) rfl ?_
            refine mV hTT (.d (.one (.v (.bool (decide (z < 0)))))) rfl ?_
            refine mView 59 (.d (.one (.v (.bool true)))) rfl (le_bool (decide_eq_true hng)) ?_
            refine mNil ?_
            refine tN ?_
            refine cT rfl ?_
            refine cReg ?_
            refine mV hTT _ rfl ?_
            refine mB hTT (.d (.one (.row 1 1 (fun i' j' => (([.v (.int .u8 45)])[i' * 1 + j']?).getD (.v undef))))) rfl ?_
            refine mA hTT (id := 3) (n := (dlen z.natAbs)) (m := 1) (el := (bel (fun i => 48 + z.natAbs / 10 ^ i % 10))) (el2 := (fun i' j' => (([.v (.int .u8 45)])[i' * 1 + j']?).getD (.v undef))) rfl rfl rfl (by show ((dlen z.natAbs) + 1) * 1 ≤ 140737488355328; omega) (by omega) rfl rfl rfl rfl rfl rfl rfl rfl rfl rfl ?_
            refine mV hTT _ rfl ?_
            refine mNil ?_
            refine tN ?_
            exact ⟨(), trivial, wk (sl := [(2, .d (.one (.v (.string (⟨#[]⟩))))), (3, .own 3)]) (hp := [(3, .row 5 1 ((rvT z).length) (bel (fun j => (rvT z).getD j 0)))]) rfl ⟨hs rfl, hs rfl, trivial⟩ ⟨ho' rfl (app_b (by rw [rvT_len, if_pos hng]) (fun i hi => (rvT_dig hi).symm) (by rw [rvT_neg hng]; rfl)), trivial⟩ rfl⟩
          · skip
            refine cReg ?_
            refine mV hTT (.ptr 1 0) rfl ?_
            refine mV hTT (.d (.one (.v (.bool (decide (z < 0)))))) rfl ?_
            refine mView 59 (.d (.one (.v (.bool false)))) rfl (le_bool (decide_eq_false hng)) ?_
            refine mNil ?_
            refine tN ?_
            refine cF rfl ?_
            refine cSkip ?_
            refine tN ?_
            exact ⟨(), trivial, wk (sl := [(2, .d (.one (.v (.string (⟨#[]⟩))))), (3, .own 3)]) (hp := [(3, .row 5 1 ((rvT z).length) (bel (fun j => (rvT z).getD j 0)))]) rfl ⟨hs rfl, hs rfl, trivial⟩ ⟨ho' rfl (leo_b (by rw [rvT_len, if_neg hng]; rfl) (fun i hi => (rvT_dig hi).symm)), trivial⟩ rfl⟩
        · skip
          show AW Try.prog _ _ ⟨89, [(2, .d (.one (.v (.string (⟨#[]⟩))))), (3, .own 3)], [(3, .row 5 1 ((rvT z).length) (bel (fun j => (rvT z).getD j 0)))]⟩
          refine cSeq ?_
          refine cSeq ?_
          refine cReg ?_
          refine mV hTT _ rfl ?_
          refine mV hTT (.d (.one (.v (.int .i64 (((rvT z).length : Nat) : Int))))) rfl ?_
          refine mV hTT (.d (.one (.v (.int .i64 (((rvT z).length - 1 - 0 : Nat) : Int))))) (evi ((wr64 (by omega) (by omega)).trans (by omega))) ?_
          refine mV hTT _ rfl ?_
          refine mV hTT _ rfl ?_
          refine mNil ?_
          refine tN ?_
          refine cBlock ?_
          refine cLoop (ι := Nat) (fun (i : Nat) => ⟨89, [(2, .d (.one (.v (.string (⟨#[]⟩))))), (3, .own 3), (9, .d (.one (.v (.int .i64 ((i : Nat) : Int))))), (10, .d (.one (.v (.int .i64 (((rvT z).length - 1 - i : Nat) : Int)))))], [(3, .row 5 1 ((rvT z).length) (bel (rv (rvT z) i)))]⟩) (fun (i : Nat) => 2 * i ≤ (rvT z).length) (fun (i : Nat) => (rvT z).length - i) 0 (Nat.zero_le _) (wk (sl := [(2, .d (.one (.v (.string (⟨#[]⟩))))), (3, .own 3), (9, .d (.one (.v (.int .i64 ((0 : Nat) : Int))))), (10, .d (.one (.v (.int .i64 (((rvT z).length - 1 - 0 : Nat) : Int)))))]) (hp := [(3, .row 5 1 ((rvT z).length) (bel (rv (rvT z) 0)))]) rfl ⟨hs rfl, hs rfl, hs' rfl (le_int rfl), hs rfl, trivial⟩ ⟨ho' rfl (leo_b rfl (fun j hj => (rv_0 hj).symm)), trivial⟩ rfl) ?_
          rintro i hI
          have hi : 2 * i ≤ (rvT z).length := hI
          show AW Try.prog _ _ ⟨89, [(2, .d (.one (.v (.string (⟨#[]⟩))))), (3, .own 3), (9, .d (.one (.v (.int .i64 ((i : Nat) : Int))))), (10, .d (.one (.v (.int .i64 (((rvT z).length - 1 - i : Nat) : Int)))))], [(3, .row 5 1 ((rvT z).length) (bel (rv (rvT z) i)))]⟩
          refine cSeq ?_
          refine cSeq ?_
          refine cReg ?_
          refine mV hTT _ rfl ?_
          refine mV hTT _ rfl ?_
          refine mV hTT (.d (.one (.v (.bool (decide (((i : Nat) : Int) < (((rvT z).length - 1 - i : Nat) : Int))))))) rfl ?_
          refine mNil ?_
          refine tN ?_
          refine cCond rfl (fun hc4 => ?_) (fun hc4 => ?_)
          · skip
            refine cSkip ?_
            refine tN ?_
            refine cSeq ?_
            refine cBlock ?_
            have hil : i < (rvT z).length - 1 - i := by have h0 := of_decide_eq_true hc4; omega
            refine Nd.cDrawS hTT 16 (by kernel_rfl) (by kernel_rfl) ?_
            refine .cons (OpS.V _ rfl) (by kernel_rfl) ?_
            refine .cons (OpS.V _ rfl) (by kernel_rfl) ?_
            refine .cons (OpS.V _ rfl) (by kernel_rfl) ?_
            refine .cons (OpS.V _ rfl) (by kernel_rfl) ?_
            refine .cons (OpS.V _ rfl) (by kernel_rfl) ?_
            refine .cons (OpS.V _ rfl) (by kernel_rfl) ?_
            refine .cons (OpS.V (.eptr 3 1 ((rvT z).length - 1 - i) 0) (ixO (z := (((rvT z).length - 1 - i : Nat) : Int)) (n := ((rvT z).length)) rfl rfl rfl rfl rfl rfl rfl (by omega) (by omega))) (by kernel_rfl) ?_
            refine .cons (OpS.V (.d (.one (.v (.int .u8 ((rv (rvT z) i ((rvT z).length - 1 - i) : Nat) : Int))))) rfl) (by kernel_rfl) ?_
            refine .cons (OpS.V _ rfl) (by kernel_rfl) ?_
            refine .cons (OpS.V _ rfl) (by kernel_rfl) ?_
            refine .cons (OpS.V (.eptr 3 1 i 0) (ixO (z := ((i : Nat) : Int)) (n := ((rvT z).length)) rfl rfl rfl rfl rfl rfl rfl (by omega) (by omega))) (by kernel_rfl) ?_
            refine .cons (OpS.V (.d (.one (.v (.int .u8 ((rv (rvT z) i i : Nat) : Int))))) rfl) (by kernel_rfl) ?_
            refine .cons (OpS.V (.eptr 3 1 i 0) (ixO (z := ((i : Nat) : Int)) (n := ((rvT z).length)) rfl rfl rfl rfl rfl rfl rfl (by omega) (by omega))) (by kernel_rfl) ?_
            refine .cons (OpS.S 3 (.row 5 1 ((rvT z).length) (fun p' q' => if p' = i then (([.v (.int .u8 ((rv (rvT z) i ((rvT z).length - 1 - i) : Nat) : Int))])[q']?).getD (.v undef) else (bel (rv (rvT z) i)) p' q')) rfl rfl) (by kernel_rfl) ?_
            refine .cons (OpS.V (.eptr 3 1 ((rvT z).length - 1 - i) 0) (ixO (z := (((rvT z).length - 1 - i : Nat) : Int)) (n := ((rvT z).length)) rfl rfl rfl rfl rfl rfl rfl (by omega) (by omega))) (by kernel_rfl) ?_
            refine .cons (OpS.S 3 (.row 5 1 ((rvT z).length) (fun p' q' => if p' = ((rvT z).length - 1 - i) then (([.v (.int .u8 ((rv (rvT z) i i : Nat) : Int))])[q']?).getD (.v undef) else (fun p' q' => if p' = i then (([.v (.int .u8 ((rv (rvT z) i ((rvT z).length - 1 - i) : Nat) : Int))])[q']?).getD (.v undef) else (bel (rv (rvT z) i)) p' q') p' q')) rfl rfl) (by kernel_rfl) ?_
            refine .nil ?_
            refine mNil ?_
            refine bN ?_
            refine tN ?_
            refine cReg ?_
            refine mV hTT _ rfl ?_
            refine mV hTT (.d (.one (.v (.int .i64 ((i + 1 : Nat) : Int))))) (evi ((wr64 (by omega) (by omega)).trans (by omega))) ?_
            refine mV hTT _ rfl ?_
            refine mV hTT (.d (.one (.v (.int .i64 (((rvT z).length - 1 - (i + 1) : Nat) : Int))))) (evi ((wr64 (by omega) (by omega)).trans (by omega))) ?_
            refine mV hTT _ rfl ?_
            refine mV hTT _ rfl ?_
            refine mNil ?_
            exact ⟨(i + 1), by omega, by omega, wk (sl := [(2, .d (.one (.v (.string (⟨#[]⟩))))), (3, .own 3), (9, .d (.one (.v (.int .i64 (((i + 1) : Nat) : Int))))), (10, .d (.one (.v (.int .i64 (((rvT z).length - 1 - (i + 1) : Nat) : Int)))))]) (hp := [(3, .row 5 1 ((rvT z).length) (bel (rv (rvT z) (i + 1))))]) rfl ⟨hs rfl, hs rfl, hs rfl, hs rfl, trivial⟩ ⟨ho' rfl (st2_b rfl (fun j hj => rv_step hil hj)), trivial⟩ rfl⟩
          · skip
            refine cExit ?_
            refine tE ?_
            refine tE ?_
            refine bE ?_
            refine tN ?_
            refine cSeq ?_
            have hie : ¬ i < (rvT z).length - 1 - i := by have h0 := of_decide_eq_false hc4; omega
            refine AW.wk (wkRow 3 rfl) ?_
            refine cReg ?_
            refine mV hTT _ rfl ?_
            refine mX (.d (.one (.v (.string (txt z))))) (xStr (txt z) rfl Try.underlying55 Try.underlying5 Try.underlying9 rfl (txt_size hz) (fun j hj => by show Lf.v (.int .u8 ((rv (rvT z) i j : Nat) : Int)) = _; rw [rv_end hie hj, txt_sb hz hj])) ?_
            refine mV hTT _ rfl ?_
            refine mNil ?_
            refine tN ?_
            refine cRet ?_
            exact rQ rfl (AV.le.rfl)

end Go.Proofs.Ytoagihianelhjaa

/-
  RATIONALS of the program, in the abstract machine's words. No condition; nothing of the program.
-/
set_option linter.unusedVariables false
set_option linter.unusedSimpArgs false
namespace Go.Proofs.Ytoagihianelhjaa
open Go.RowKit

theorem ist_tn (K : Nat) (q : Rat) : IsT (tn K q) K q.num q.den := ⟨decide (q.num < 0), limbs q.num.natAbs, decide ((q.den : Int) < 0), limbs (Int.natAbs (q.den : Int)), fun _ _ _ h => h, by rw [val_limbs]; exact zv_natAbs _, by rw [val_limbs]; exact zv_natAbs _⟩
theorem istn (K : Nat) (q : Rat) : IsTN (tn K q) K q := fun _ _ _ h => h
theorem tn_mono {K L : Nat} {q : Rat} (h : K ≤ L) : ∀ B w cs, LsR B w (tn K q) cs → LsR B w (tn L q) cs
  | B, w, [a, b, c, d], ⟨h1, h2, h3, h4, h5⟩ => ⟨h1, lr_mono h _ _ _ h2, h3, lr_mono h _ _ _ h4, h5⟩
theorem le_tn {K L : Nat} {z y : Rat} (h : K ≤ L) (e : z = y) : AV.le (.d (.agg (tn K z))) (.d (.agg (tn L y))) := by subst e; exact le_agg (tn_mono h)
theorem leo_tn {t : TypeId} {K L : Nat} {z y : Rat} (h : K ≤ L) (e : z = y) : AO.le (.box t (tn K z)) (.box t (tn L y)) := by subst e; exact leo_box (tn_mono h)
theorem le_tn2 {K L M : Nat} {n d : Int} {q : Rat} (h1 : K ≤ M) (h2 : L ≤ M) (e1 : n = q.num) (e2 : d = q.den) : AV.le (.d (.agg (zn K n ++ zn L d))) (.d (.agg (tn M q))) := by
  subst e1; subst e2
  refine le_agg fun B w cs h => ?_
  match cs, h with
  | [a, b, c, d], ⟨h1', h2', h3', h4', h5'⟩ => exact ⟨h1', lr_mono h1 _ _ _ h2', h3', lr_mono h2 _ _ _ h4', h5'⟩
theorem isp2a {K L : Nat} {s t : Bool} {xs ys : List Nat} {x y : Int} {el : Nat → Nat → Lf} (hx : zv s (val xs) = x) (hy : zv t (val ys) = y) (h0 : el 0 0 = .v (.bool s) := by rfl) (h1 : el 0 1 = lr K xs := by rfl) (h2 : el 1 0 = .v (.bool t) := by rfl) (h3 : el 1 1 = lr L ys := by rfl) : IsP (.row 2 2 el) (max K L) 2 (lin x y) := by
  refine ⟨⟨fun i => if i = 0 then (s, xs) else (t, ys), row_le fun i hi j hj B w v hv => ?_, fun i hi => ?_⟩, lin_z⟩
  · match i, hi, j, hj with
    | 0, _, 0, _ => rw [h0] at hv; exact hv
    | 0, _, 1, _ => rw [h1] at hv; exact lr_mono (Nat.le_max_left _ _) _ _ _ hv
    | 1, _, 0, _ => rw [h2] at hv; exact hv
    | 1, _, 1, _ => rw [h3] at hv; exact lr_mono (Nat.le_max_right _ _) _ _ _ hv
  · match i, hi with
    | 0, _ => exact hx
    | 1, _ => exact hy
theorem gcdN_two {x y : Int} : gcdN (lin x y) 2 = Nat.gcd x.natAbs y.natAbs := by
  show Nat.gcd (Nat.gcd 0 x.natAbs) y.natAbs = _
  rw [Nat.gcd_zero_left]
theorem mkR_posN {n d : Int} (h : 0 < d) : (Rat.divInt n d).num = n / ((gcdN (lin n d) 2 : Nat) : Int) ∧ ((Rat.divInt n d).den : Int) = d / ((gcdN (lin n d) 2 : Nat) : Int) := by rw [gcdN_two]; exact mkR_pos h
theorem mkR_negN {n d : Int} (h : d < 0) : (Rat.divInt n d).num = -n / ((gcdN (lin n d) 2 : Nat) : Int) ∧ ((Rat.divInt n d).den : Int) = -d / ((gcdN (lin n d) 2 : Nat) : Int) := by
  have h1 := mkR_pos (n := -n) (d := -d) (by omega)
  rw [Rat.neg_divInt_neg, Int.natAbs_neg, Int.natAbs_neg] at h1
  rw [gcdN_two]; exact h1
theorem g_ne {n d : Int} (h : d ≠ 0) : ((gcdN (lin n d) 2 : Nat) : Int) ≠ 0 := by rw [gcdN_two]; exact gcd_nz h
theorem g_l (n d : Int) : ((gcdN (lin n d) 2 : Nat) : Int) ∣ n := by rw [gcdN_two]; exact gcd_dvd_l n d
theorem g_r (n d : Int) : ((gcdN (lin n d) 2 : Nat) : Int) ∣ d := by rw [gcdN_two]; exact gcd_dvd_r n d
theorem mkR_zero (n : Int) : mkR n 0 = Rat.divInt n 1 := by unfold mkR; rw [if_pos rfl]
end Go.Proofs.Ytoagihianelhjaa

/-
  PLAIN LAW of chapters 3 and 4: what is printed is read again. No condition; nothing of the program.
-/
set_option linter.unusedVariables false
set_option linter.unusedSimpArgs false
namespace Go.Proofs.Ytoagihianelhjaa
open Go.RowKit

/-- The digits of a text. -/
def dgL (z : Int) : List Nat := if z = 0 then [48] else (digs 10 z.natAbs).reverse.map (· + 48)
theorem txL_dg (z : Int) : txL z = (if z < 0 then [45] else []) ++ dgL z := rfl
theorem dgL_rng (z : Int) : ∀ x ∈ dgL z, 48 ≤ x ∧ x ≤ 57 := by
  intro x hx
  unfold dgL at hx
  split at hx
  · simp at hx; omega
  · obtain ⟨y, hy, rfl⟩ := List.mem_map.1 hx
    have := digs_lt (B := 10) (by decide) _ y (List.mem_reverse.1 hy)
    omega
theorem dgL_lt (z : Int) : ∀ x ∈ dgL z, x < 256 := fun x hx => by have := dgL_rng z x hx; omega
theorem dgL_len (z : Int) : (dgL z).length = if z = 0 then 1 else dlen z.natAbs := by
  unfold dgL
  split
  · rfl
  · simp [dlen]
theorem dgL_pos (z : Int) : 1 ≤ (dgL z).length := by
  rw [dgL_len]
  split
  · exact Nat.le_refl _
  · exact dlen_pos (by omega)
theorem getD_mem {l : List Nat} {i : Nat} (h : i < l.length) : l.getD i 0 ∈ l := by
  rw [List.getD_eq_getElem?_getD, List.getElem?_eq_getElem h]; exact List.getElem_mem h
theorem txt_ne {z : Int} {i : Nat} (hi : i < (txt z).size) : sb (txt z) i ≠ 47 := by
  unfold txt at hi ⊢
  rw [size_mkS] at hi
  rw [sb_mkS (txL_lt z) hi]
  have hm := getD_mem hi
  have key : ∀ y, y ∈ txL z → y ≠ 47 := by
    intro y hy
    rw [txL_dg] at hy
    rcases List.mem_append.1 hy with h | h
    · split at h
      · simp only [List.mem_singleton] at h; omega
      · cases h
    · have := dgL_rng z _ h; omega
  exact key _ hm
theorem isneg_txt (z : Int) : isneg (txt z) = decide (z < 0) := by
  have hp := dgL_pos z
  have hs : 0 < (txL z).length := by rw [txL_dg, List.length_append]; omega
  have h0 : sb (txt z) 0 = (txL z).getD 0 0 := sb_mkS (txL_lt z) hs
  have hsz : 0 < (txt z).size := by unfold txt; rw [size_mkS]; exact hs
  unfold isneg
  by_cases h : z < 0
  · rw [decide_eq_true h]
    refine decide_eq_true ⟨hsz, ?_⟩
    rw [h0, txL_dg, if_pos h]; rfl
  · rw [decide_eq_false h]
    refine decide_eq_false fun e => ?_
    have e2 := e.2
    rw [h0, txL_dg, if_neg h, List.nil_append] at e2
    have := dgL_rng z _ (getD_mem (l := dgL z) (i := 0) (by omega))
    omega
theorem body_txt (z : Int) : body (txt z) = mkS (dgL z) := by
  unfold body
  rw [isneg_txt]
  by_cases h : z < 0
  · rw [if_pos (by simpa using h)]
    have e : txt z = mkS (45 :: dgL z) := by unfold txt; rw [txL_dg, if_pos h]; rfl
    have hl : ∀ x ∈ 45 :: dgL z, x < 256 := fun x hx => by
      rcases List.mem_cons.1 hx with rfl | hx
      · decide
      · exact dgL_lt z x hx
    rw [e]
    refine bytes_ext (by rw [size_ext (Nat.le_refl _), size_mkS, size_mkS, List.length_cons]; omega) fun i hi => ?_
    rw [size_ext (Nat.le_refl _), size_mkS, List.length_cons] at hi
    rw [sb_ext (Nat.le_refl _) (by rw [size_mkS, List.length_cons]; omega), sb_mkS hl (by rw [List.length_cons]; omega), sb_mkS (dgL_lt z) (by omega), Nat.add_comm, List.getD_cons_succ]
  · rw [if_neg (by simpa using h)]
    unfold txt; rw [txL_dg, if_neg h]; rfl
theorem okT_txt {z : Int} (h : dlen z.natAbs ≤ 400) : okT (txt z) := by
  unfold okT
  rw [body_txt]
  refine ⟨by rw [size_mkS]; exact dgL_pos z, by rw [size_mkS, dgL_len]; split <;> omega, fun i hi => ?_⟩
  rw [size_mkS] at hi
  unfold isDg
  rw [sb_mkS (dgL_lt z) hi]
  exact dgL_rng z _ (getD_mem hi)
theorem pvl_txt (z : Int) : pvl (txt z) = z := by
  unfold pvl
  rw [isneg_txt, body_txt]
  have key : dvl (mkS (dgL z)) (mkS (dgL z)).size = z.natAbs := by
    rw [size_mkS, dgL_len]
    by_cases h : z = 0
    · subst h; rfl
    · rw [if_neg h]
      have hd : dgL z = (digs 10 z.natAbs).reverse.map (· + 48) := if_neg h
      have h1 := dvl_rev (b := mkS (dgL z)) (l := digs 10 z.natAbs) (digs_lt (by decide) _) 0 rfl (fun i hi => by
        have hi2 : i < (dgL z).length := by rw [dgL_len, if_neg h]; exact hi
        rw [Nat.zero_add, sb_mkS (dgL_lt z) hi2, hd, List.getD_eq_getElem?_getD, List.getElem?_map, List.getD_eq_getElem?_getD]
        have hi3 : i < (digs 10 z.natAbs).reverse.length := by rw [List.length_reverse]; exact hi
        rw [List.getElem?_eq_getElem hi3]; rfl)
      rw [Nat.zero_add, valB_digs (by decide)] at h1
      exact h1
  rw [key]
  exact zv_natAbs z
theorem txt_le {z : Int} {K : Nat} (h : z.natAbs < B32 ^ K) : (txt z).size ≤ 10 * K + 2 := by
  have := dlen_K h
  unfold txt
  rw [size_mkS, txL_dg, List.length_append, dgL_len]
  have h1 : (if z < 0 then [45] else ([] : List Nat)).length ≤ 1 := by split <;> simp
  have h2 : (if z = 0 then 1 else dlen z.natAbs) ≤ 10 * K + 1 := by split <;> omega
  omega
/-! ### Texts put together -/
theorem size_app (a b : ByteArray) : (a ++ b).size = a.size + b.size := ByteArray.size_append
theorem sb_appL {a b : ByteArray} {i : Nat} (h : i < a.size) : sb (a ++ b) i = sb a i := by
  unfold sb
  rw [ByteArray.data_append, Array.getElem?_append_left (by exact h)]
theorem sb_appR {a b : ByteArray} {i : Nat} (h : a.size ≤ i) : sb (a ++ b) i = sb b (i - a.size) := by
  unfold sb
  rw [ByteArray.data_append, Array.getElem?_append_right (by exact h)]; rfl
/-- A rational's text. -/
def frT (q : Rat) : ByteArray := if q.den = 1 then txt q.num else (txt q.num ++ ⟨#[47]⟩) ++ txt (q.den : Int)
theorem fr_size (q : Rat) (h : q.den ≠ 1) : (frT q).size = (txt q.num).size + 1 + (txt (q.den : Int)).size := by
  unfold frT
  rw [if_neg h, size_app, size_app]; rfl
theorem fr_sbL {q : Rat} (h : q.den ≠ 1) {i : Nat} (hi : i < (txt q.num).size) : sb (frT q) i = sb (txt q.num) i := by
  unfold frT
  rw [if_neg h, sb_appL (by rw [size_app]; omega), sb_appL hi]
theorem fr_sbM {q : Rat} (h : q.den ≠ 1) : sb (frT q) (txt q.num).size = 47 := by
  unfold frT
  rw [if_neg h, sb_appL (by rw [size_app]; exact Nat.lt_succ_self _), sb_appR (Nat.le_refl _), Nat.sub_self]; rfl
theorem fr_sbR {q : Rat} (h : q.den ≠ 1) (i : Nat) : sb (frT q) ((txt q.num).size + 1 + i) = sb (txt (q.den : Int)) i := by
  unfold frT
  have hs : (txt q.num ++ (⟨#[47]⟩ : ByteArray)).size = (txt q.num).size + 1 := by rw [size_app]; rfl
  rw [if_neg h, sb_appR (by rw [hs]; omega), hs]
  congr 1
  omega
theorem fr_extL {q : Rat} (h : q.den ≠ 1) : (frT q).extract 0 (txt q.num).size = txt q.num := by
  have hs := fr_size q h
  refine bytes_ext (by rw [size_ext (by omega)]; omega) fun i hi => ?_
  rw [size_ext (by omega)] at hi
  rw [sb_ext (by omega) (by omega), Nat.zero_add, fr_sbL h (by omega)]
theorem fr_extR {q : Rat} (h : q.den ≠ 1) : (frT q).extract ((txt q.num).size + 1) (frT q).size = txt (q.den : Int) := by
  have hs := fr_size q h
  refine bytes_ext (by rw [size_ext (Nat.le_refl _)]; omega) fun i hi => ?_
  rw [size_ext (Nat.le_refl _)] at hi
  rw [sb_ext (Nat.le_refl _) (by omega), fr_sbR h]
theorem rat_int {q : Rat} (h : q.den = 1) : ((q.num : Int) : Rat) = q := by
  refine Rat.ext ?_ ?_
  · exact Rat.num_intCast _
  · rw [h]; exact Rat.den_intCast _
theorem quo_back {P Q : Rat} (hP : P ≠ 0) (hQ : Q ≠ 0) : P / Q * (Q / P) = 1 := by
  rw [Rat.div_def, Rat.div_def, Rat.mul_assoc, ← Rat.mul_assoc Q⁻¹ Q P⁻¹, Rat.inv_mul_cancel _ hQ, Rat.one_mul, Rat.mul_inv_cancel _ hP]
end Go.Proofs.Ytoagihianelhjaa

/-
  A RATIONAL'S TEXT, by the machine; it is read again.
-/
set_option linter.unusedVariables false
set_option linter.unusedSimpArgs false
namespace Go.Proofs.Ytoagihianelhjaa
open Go.RowKit

theorem tn_bdL {K : Nat} {q : Rat} {B : BS} {w : World} {cs : List Value} (h : LsR B w (tn K q) cs) : q.num.natAbs < B32 ^ K ∧ (q.den : Int).natAbs < B32 ^ K := by
  match cs, h with
  | [x, y, u, v], h =>
    obtain ⟨_, h2, _, h4, _⟩ := h
    obtain ⟨a, n, c, rfl, hr, hK, _⟩ := lr_of h2
    obtain ⟨a', n', c', rfl, hr', hK', _⟩ := lr_of h4
    have e1 := lr_lt hr hK
    have e2 := lr_lt hr' hK'
    rw [val_limbs] at e1 e2
    exact ⟨e1, e2⟩
theorem tn_bd {K : Nat} {q : Rat} {B : BS} {w : World} {vs : List Value} (h : DsR B w [.agg (tn K q)] vs) : q.num.natAbs < B32 ^ K ∧ (q.den : Int).natAbs < B32 ^ K := by
  match vs, h with
  | [v], h =>
    obtain ⟨⟨cs, rfl, hl⟩, _⟩ := h
    exact tn_bdL hl
theorem tn_fact {P : Program} {c : Code} {Q : Qs} {s : AS} {K : Nat} {q : Rat} (t : Nat) (h : lk s.sl t = some (.d (.agg (tn K q)))) (k : (q.num.natAbs < B32 ^ K ∧ (q.den : Int).natAbs < B32 ^ K) → AW P c Q s) : AW P c Q s := by
  intro B0 w0 a w hd
  have hd' := hd
  obtain ⟨ρ, hc, hn, hdf, hs⟩ := hd'
  obtain ⟨v, h1, cs, rfl, hl⟩ := hs t _ h
  exact k (tn_bdL hl) B0 w0 a w hd
theorem evcat {T : TypeId → Option TI} {s : AS} {t : TypeId} {x y : Operand} {yt : TypeId} {ti : TI} {a b : ByteArray} (h1 : T t = some ti) (h2 : geto s x = some (.d (.one (.v (.string a))))) (h3 : geto s y = some (.d (.one (.v (.string b))))) (h : a.size + b.size ≤ 9223372036854775807) : evV T s (.binOp .add t x y yt) = some (.d (.one (.v (.string (a ++ b))))) := by
  simp only [evV, h1, h2, h3, binV, if_pos h]; rfl
theorem le_nil4 : AV.le (.d (.agg [.v (.bool false), .v (.slice none 0 0), .v (.bool false), .v (.slice none 0 0)])) (.d (.agg (zn 0 0 ++ zn 0 0))) := le_agg fun B w cs h => by
  match cs, h with
  | [a, b, c, d], ⟨h1, h2, h3, h4, _⟩ =>
    have u := nil_ls (B := B) (w := w) (cs := [a, b]) ⟨h1, h2, trivial⟩
    have v := nil_ls (B := B) (w := w) (cs := [c, d]) ⟨h3, h4, trivial⟩
    exact ⟨u.1, u.2.1, v.1, v.2.1, trivial⟩
set_option maxRecDepth 100000 in
set_option maxHeartbeats 4000000 in
theorem aDFrac {a : List Lf} {K : Nat} {q : Rat} (ha : IsTN a K q) (hK : K ≤ 100000 := by decide) : ACall Try.prog 21 [.agg a] (.d (.one (.v (.string (frT q))))) := by
  refine ACall.le (dl (DV.g ha) dl0) AV.le.rfl ?_
  refine ACall.fact (p := q.num.natAbs < B32 ^ K ∧ (q.den : Int).natAbs < B32 ^ K) (enters Try.func21 rfl rfl) (fun B w vs h => tn_bd h) (fun hB => ?_)
  have hs1 := txt_le hB.1
  have hs2 := txt_le hB.2
  refine acallN hTT 27 [.tmp 2] Try.func21 rfl rfl rfl rfl rfl ?_
  refine cSeq ?_
  refine cReg ?_
  refine mN hTT (.box 46 (tn K q)) rfl rfl rfl ?_
  refine mV hTT _ rfl ?_
  refine mNil ?_
  refine tN ?_
  refine cSeq ?_
  refine cSeq ?_
  by_cases hs : Int.natAbs (Rat.den q : Int) < 4611686018427387904
  · skip
    by_cases h1 : Rat.den q = 1
    · skip
      refine cReg ?_
      refine mV hTT (.ptr 1 2) rfl ?_
      refine mV hTT (.d (.agg (zn K (Rat.den q : Int)))) rfl ?_
      refine mC0 (aSmall (isz K (Rat.den q : Int)) hs (by omega)) rfl rfl rfl ?_
      refine mV hTT _ rfl ?_
      refine mV hTT _ rfl ?_
      refine mV hTT _ rfl ?_
      refine mV hTT _ rfl ?_
      refine mV hTT _ rfl ?_
      refine mNil ?_
      refine tN ?_
      refine cSeq ?_
      refine cReg ?_
      refine mV hTT _ rfl ?_
      refine mV hTT _ rfl ?_
      refine mV hTT _ rfl ?_
      refine mV hTT (.d (.one (.v (.bool true)))) (evb (by rw [h1]; rfl)) ?_
      refine mV hTT _ rfl ?_
      refine mNil ?_
      refine tN ?_
      refine cT rfl ?_
      refine cSeq ?_
      refine cReg ?_
      refine mV hTT (.ptr 1 0) rfl ?_
      refine mV hTT (.d (.agg (zn K (Rat.num q)))) rfl ?_
      refine mC0 (aDText (isz K (Rat.num q)) (by omega)) rfl rfl rfl ?_
      refine mV hTT _ rfl ?_
      refine mNil ?_
      refine tN ?_
      refine cRet ?_
      refine tR ?_
      exact rQ rfl (le_str (by unfold frT; rw [if_pos h1]))
    · skip
      refine cReg ?_
      refine mV hTT (.ptr 1 2) rfl ?_
      refine mV hTT (.d (.agg (zn K (Rat.den q : Int)))) rfl ?_
      refine mC0 (aSmall (isz K (Rat.den q : Int)) hs (by omega)) rfl rfl rfl ?_
      refine mV hTT _ rfl ?_
      refine mV hTT _ rfl ?_
      refine mV hTT _ rfl ?_
      refine mV hTT _ rfl ?_
      refine mV hTT _ rfl ?_
      refine mNil ?_
      refine tN ?_
      refine cSeq ?_
      refine cReg ?_
      refine mV hTT _ rfl ?_
      refine mV hTT _ rfl ?_
      refine mV hTT _ rfl ?_
      refine mV hTT (.d (.one (.v (.bool false)))) (evb (beq_eq_false_iff_ne.2 fun e => h1 (by omega))) ?_
      refine mV hTT _ rfl ?_
      refine mNil ?_
      refine tN ?_
      refine cF rfl ?_
      refine cSkip ?_
      refine tN ?_
      refine cSeq ?_
      refine cDrawK hTT 9 (by kernel_rfl) (by kernel_rfl) (by kernel_rfl) ?_
      refine .cons (OpS.V (.ptr 1 0) rfl) ?_
      refine .cons (OpS.V (.d (.agg (zn K (Rat.num q)))) rfl) ?_
      refine .cons (OpS.C0 (aDText (isz K (Rat.num q)) (by omega)) rfl rfl rfl) ?_
      refine .cons (OpS.V (.d (.one (.v (.string ((txt (Rat.num q)) ++ ⟨#[47]⟩))))) (evcat rfl rfl rfl (by show (txt (Rat.num q)).size + 1 ≤ _; omega))) ?_
      refine .cons (OpS.V (.ptr 1 2) rfl) ?_
      refine .cons (OpS.V (.d (.agg (zn K (Rat.den q : Int)))) rfl) ?_
      refine .cons (OpS.C0 (aDText (isz K (Rat.den q : Int)) (by omega)) rfl rfl rfl) ?_
      refine .cons (OpS.V (.d (.one (.v (.string (((txt (Rat.num q)) ++ ⟨#[47]⟩) ++ (txt (Rat.den q : Int))))))) (evcat rfl rfl rfl (by rw [size_app]; show (txt (Rat.num q)).size + 1 + (txt (Rat.den q : Int)).size ≤ _; omega))) ?_
      refine .cons (OpS.V _ rfl) ?_
      refine .nil ?_
      refine mNil ?_
      refine tN ?_
      refine cRet ?_
      exact rQ rfl (le_str (by unfold frT; rw [if_neg h1]))
  · skip
    have h1 : Rat.den q ≠ 1 := fun e => hs (by rw [e]; decide)
    refine cReg ?_
    refine mV hTT (.ptr 1 2) rfl ?_
    refine mV hTT (.d (.agg (zn K (Rat.den q : Int)))) rfl ?_
    refine mC0 (aSmallNot (isz K (Rat.den q : Int)) hs (by omega)) rfl rfl rfl ?_
    refine mV hTT _ rfl ?_
    refine mV hTT _ rfl ?_
    refine mV hTT _ rfl ?_
    refine mV hTT _ rfl ?_
    refine mV hTT _ rfl ?_
    refine mNil ?_
    refine tN ?_
    refine cSeq ?_
    refine cReg ?_
    refine mV hTT _ rfl ?_
    refine mV hTT _ rfl ?_
    refine mG rfl rfl ?_
    refine mG rfl rfl ?_
    refine mV hTT _ rfl ?_
    refine mNil ?_
    refine tN ?_
    refine cF rfl ?_
    refine cSkip ?_
    refine tN ?_
    refine cSeq ?_
    refine cDrawK hTT 9 (by kernel_rfl) (by kernel_rfl) (by kernel_rfl) ?_
    refine .cons (OpS.V (.ptr 1 0) rfl) ?_
    refine .cons (OpS.V (.d (.agg (zn K (Rat.num q)))) rfl) ?_
    refine .cons (OpS.C0 (aDText (isz K (Rat.num q)) (by omega)) rfl rfl rfl) ?_
    refine .cons (OpS.V (.d (.one (.v (.string ((txt (Rat.num q)) ++ ⟨#[47]⟩))))) (evcat rfl rfl rfl (by show (txt (Rat.num q)).size + 1 ≤ _; omega))) ?_
    refine .cons (OpS.V (.ptr 1 2) rfl) ?_
    refine .cons (OpS.V (.d (.agg (zn K (Rat.den q : Int)))) rfl) ?_
    refine .cons (OpS.C0 (aDText (isz K (Rat.den q : Int)) (by omega)) rfl rfl rfl) ?_
    refine .cons (OpS.V (.d (.one (.v (.string (((txt (Rat.num q)) ++ ⟨#[47]⟩) ++ (txt (Rat.den q : Int))))))) (evcat rfl rfl rfl (by rw [size_app]; show (txt (Rat.num q)).size + 1 + (txt (Rat.den q : Int)).size ≤ _; omega))) ?_
    refine .cons (OpS.V _ rfl) ?_
    refine .nil ?_
    refine mNil ?_
    refine tN ?_
    refine cRet ?_
    exact rQ rfl (le_str (by unfold frT; rw [if_neg h1]))

end Go.Proofs.Ytoagihianelhjaa

