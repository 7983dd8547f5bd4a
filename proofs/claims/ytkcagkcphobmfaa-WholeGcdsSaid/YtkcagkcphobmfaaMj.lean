/-
  THE ABSTRACT MACHINE, 10: A REGION THAT DRAWS ITS ORDER, reckoned in the order of its text. No condition; nothing of the program.
-/
import Derived.Test.YtkcagkcphobmfaaMi
set_option linter.unusedVariables false
set_option linter.unusedSimpArgs false
namespace Go.Proofs.Ytkcagkcphobmfaa
open Go.RowKit

section
variable {P : Program} {T : TypeId → Option TI} {ops : Array Oper} {s s' : AS} {o : Oper}

/-- One operation makes s out of s. -/
inductive OpS (P : Program) (T : TypeId → Option TI) (ops : Array Oper) (o : Oper) (s : AS) : AS → Prop
  | V (av : AV) (h : evV T s o.op = some av) (hg : gst ops s o = some true := by rfl) (hd : dok o.dst s.n = true := by rfl) : OpS P T ops o s (s.put o.dst av)
  | B (av : AV) (h : evB T s o.op = some av) (hg : gst ops s o = some true := by rfl) (hd : dok o.dst s.n = true := by rfl) : OpS P T ops o s (s.put o.dst av)
  | G (hg : gst ops s o = some false) (hd : dok o.dst s.n = true) : OpS P T ops o s (s.put o.dst .dead)
  | N (ob : AO) (h : evN T s o.op = some ob) (d : Nat) (hdst : o.dst = some d) (hfr : lk s.hp d = none) (hg : gst ops s o = some true := by rfl) (hd : dok (some d) s.n = true := by rfl) : OpS P T ops o s (s.mk' d ob)
  | C {c : Call} {f : FuncId} {cap ds : List DV} {res : AV} (h : ACall P f (ds ++ cap) res) (hc : callOf o.op = some c) (hf : fnOf s c.callee = some (f, cap)) (ha : getds s c.args.toList = some ds) (hg : gst ops s o = some true := by rfl) (hd : dok o.dst s.n = true := by rfl) : OpS P T ops o s (s.put o.dst res)

/-- One after another. -/
inductive Ch (P : Program) (T : TypeId → Option TI) (ops : Array Oper) : List Oper → AS → AS → Prop
  | nil (s : AS) : Ch P T ops [] s s
  | cons {o : Oper} {l : List Oper} {s s1 s2 : AS} (h : OpS P T ops o s s1) (k : Ch P T ops l s1 s2) : Ch P T ops (o :: l) s s2

theorem Ch.st {l : List Oper} {s s' : AS} (h : Ch P T ops l s s') : ∃ st : Nat → AS, st 0 = s ∧ st l.length = s' ∧ ∀ i o, l[i]? = some o → OpS P T ops o (st i) (st (i + 1)) := by
  induction h with
  | nil s => exact ⟨fun _ => s, rfl, rfl, fun i o h => by simp at h⟩
  | cons h k ih =>
    rename_i o l s s1 s2
    obtain ⟨st, h1, h2, h3⟩ := ih
    refine ⟨fun i => match i with | 0 => s | i + 1 => st i, rfl, h2, fun i o' ho => ?_⟩
    cases i with
    | zero =>
      obtain rfl : o = o' := by simpa using ho
      show OpS P T ops o s (st 0)
      rw [h1]; exact h
    | succ i => exact h3 i o' (by simpa using ho)

/-! ### An operation looks at its operands alone -/
theorem getps_congr {s s' : AS} : ∀ (l : List (Nat × Operand)), (∀ p ∈ l, geto s p.2 = geto s' p.2) → getps s l = getps s' l
  | [], _ => rfl
  | (i, x) :: r, h => by
    unfold getps
    rw [h (i, x) (by simp), getps_congr r (fun p hp => h p (by simp [hp]))]
theorem getls_congr {s s' : AS} : ∀ (l : List Operand), (∀ x ∈ l, geto s x = geto s' x) → getls s l = getls s' l
  | [], _ => rfl
  | x :: r, h => by
    unfold getls
    rw [h x (by simp), getls_congr r (fun p hp => h p (by simp [hp]))]
theorem getds_congr {s s' : AS} : ∀ (l : List Operand), (∀ x ∈ l, geto s x = geto s' x) → getds s l = getds s' l
  | [], _ => rfl
  | x :: r, h => by
    unfold getds
    rw [h x (by simp), getds_congr r (fun p hp => h p (by simp [hp]))]

theorem evV_congr {op : Op} (hhp : s.hp = s'.hp) (h : ∀ x ∈ op.operands, geto s x = geto s' x) : evV T s op = evV T s' op := by
  have hint : ∀ x ∈ op.operands, ints2 s x = ints2 s' x := fun x hx => by unfold ints2; rw [h x hx]
  cases op with
  | move x => exact h x (by simp [Op.operands])
  | assign x => exact h x (by simp [Op.operands])
  | pick c a b => simp only [evV]; rw [h c (by simp [Op.operands]), h a (by simp [Op.operands]), h b (by simp [Op.operands])]
  | load t x => simp only [evV]; rw [h x (by simp [Op.operands]), hhp]
  | binOp op t x y yt => simp only [evV]; rw [h x (by simp [Op.operands]), h y (by simp [Op.operands])]
  | unOp op t x => simp only [evV]; rw [h x (by simp [Op.operands])]
  | convert src dst x => simp only [evV]; rw [h x (by simp [Op.operands])]
  | fieldAddr t x f => simp only [evV]; rw [h x (by simp [Op.operands])]
  | field t x f => simp only [evV]; rw [h x (by simp [Op.operands])]
  | extract x i => simp only [evV]; rw [h x (by simp [Op.operands])]
  | indexAddr t x ix => simp only [evV]; rw [h x (by simp [Op.operands]), hint ix (by simp [Op.operands]), hhp]
  | slice t x lo hi mx =>
    cases mx with
    | some m => rfl
    | none =>
      have hlo : ∀ d, bndV s lo d = bndV s' lo d := by
        intro d
        cases lo with
        | none => rfl
        | some y => simp only [bndV]; rw [hint y (by simp [Op.operands])]
      have hhi : ∀ d, bndV s hi d = bndV s' hi d := by
        intro d
        cases hi with
        | none => rfl
        | some y => simp only [bndV]; rw [hint y (by simp [Op.operands])]
      simp only [evV, h x (by simp [Op.operands]), hlo, hhi]
  | build t ps =>
    simp only [evV]
    rw [getps_congr ps.toList (fun p hp => h p.2 (by simp only [Op.operands, List.mem_toArray, List.mem_map]; exact ⟨p, hp, rfl⟩))]
  | call c =>
    have hargs : ∀ x ∈ c.args.toList, geto s x = geto s' x := fun x hx => h x (by simp only [Op.operands, Call.operands]; exact Array.mem_append.2 (Or.inr (by simpa using hx)))
    have hl := getls_congr c.args.toList hargs
    simp only [evV]
    rw [hl, hhp]
    split
    · split
      · rename_i x t ha ht
        have hx := hargs x (by rw [ha]; simp)
        rw [hx]
      · rfl
    · rfl
    · rfl
    · rfl
  | makeFunc fn fi caps =>
    have hl := getls_congr caps.toList (fun x hx => h x (by simp only [Op.operands]; exact Array.mem_append.2 (Or.inr (by simpa using hx))))
    cases fn <;> first | rfl | (simp only [evV]; rw [hl])
  | _ => rfl

theorem evN_congr {op : Op} (h : ∀ x ∈ op.operands, geto s x = geto s' x) : evN T s op = evN T s' op := by
  have hi : ∀ x ∈ op.operands, ints2 s x = ints2 s' x := fun x hx => by unfold ints2; rw [h x hx]
  cases op with
  | box t x => simp only [evN]; rw [h x (by simp [Op.operands])]
  | makeSlice t l c => simp only [evN]; rw [hi l (by simp [Op.operands]), hi c (by simp [Op.operands])]
  | _ => rfl

theorem evB_congr {op : Op} (h : ∀ x ∈ op.operands, geto s x = geto s' x) : evB T s op = evB T s' op := by
  cases op with
  | buildSlice t len ps =>
    simp only [evB]
    rw [getps_congr ps.toList (fun p hp => h p.2 (by simp only [Op.operands, List.mem_toArray, List.mem_map]; exact ⟨p, hp, rfl⟩))]
  | _ => rfl

theorem fnOf_congr {c : Call} (h : ∀ x ∈ c.operands, geto s x = geto s' x) : fnOf s c.callee = fnOf s' c.callee := by
  unfold Call.operands at h
  cases hc : c.callee with
  | value x =>
    rw [hc] at h
    simp only [fnOf]
    rw [h x (by simp)]
  | _ => rfl

/-- What is known of some slots. -/
def pickS (sl : List (Nat × AV)) : List Nat → List (Nat × AV)
  | [] => []
  | t :: ts => match lk sl t with
    | some av => (t, av) :: pickS sl ts
    | none => pickS sl ts
theorem lk_pickS {sl : List (Nat × AV)} : ∀ (ts : List Nat) (t : Nat), t ∈ ts → lk (pickS sl ts) t = lk sl t
  | [], t, h => by simp at h
  | u :: ts, t, h => by
    unfold pickS
    by_cases e : u = t
    · subst e
      cases hl : lk sl u with
      | some av => simp only; rw [lk_cons, if_pos rfl]
      | none =>
        simp only
        by_cases hm : u ∈ ts
        · rw [lk_pickS ts u hm, hl]
        · exact pickS_none ts u hm
    · have hm : t ∈ ts := by
        rcases List.mem_cons.1 h with h | h
        · exact absurd h.symm e
        · exact h
      split
      · rw [lk_cons, if_neg e, lk_pickS ts t hm]
      · exact lk_pickS ts t hm
where
  pickS_none : ∀ (ts : List Nat) (t : Nat), ¬ t ∈ ts → lk (pickS sl ts) t = none
  | [], t, _ => rfl
  | u :: ts, t, h => by
    unfold pickS
    simp only [List.mem_cons, not_or] at h
    split
    · rw [lk_cons, if_neg (fun e => h.1 e.symm), pickS_none ts t h.2]
    · exact pickS_none ts t h.2
theorem pickS_mem {sl : List (Nat × AV)} : ∀ (ts : List Nat) (t : Nat) (av : AV), lk (pickS sl ts) t = some av → t ∈ ts ∧ lk sl t = some av
  | [], t, av, h => by cases h
  | u :: ts, t, av, h => by
    unfold pickS at h
    split at h
    · rename_i av' hl
      rw [lk_cons] at h
      split at h
      · rename_i e
        subst e
        cases h
        exact ⟨by simp, hl⟩
      · obtain ⟨h1, h2⟩ := pickS_mem ts t av h
        exact ⟨by simp [h1], h2⟩
    · obtain ⟨h1, h2⟩ := pickS_mem ts t av h
      exact ⟨by simp [h1], h2⟩

theorem gst_congr (h : ∀ t ∈ o.looksAt ops, lk s.sl t = lk s'.sl t) : gst ops s o = gst ops s' o := by
  unfold gst
  cases hg : o.guard with
  | none => rfl
  | some q =>
    obtain ⟨j, want⟩ := q
    simp only
    cases hj : ops.toList[j]? with
    | none => rfl
    | some oj =>
      simp only
      cases hd : oj.dst with
      | none => rfl
      | some d =>
        simp only
        have hj' : ops[j]? = some oj := by rw [← Array.getElem?_toList]; exact hj
        rw [h d (by
          unfold Oper.looksAt
          rw [hg]
          exact List.mem_append_right _ (by simp [hj', hd]))]
end

end Go.Proofs.Ytkcagkcphobmfaa
