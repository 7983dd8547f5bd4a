/-
  THE ABSTRACT MACHINE, 12: append; a row or a variable that is written no more; an empty row taken for the frame's own. No condition; nothing of the program.
-/
import Derived.Test.YtkcagkcphobmfaaMk
set_option linter.unusedVariables false
set_option linter.unusedSimpArgs false
namespace Go.Proofs.Ytkcagkcphobmfaa
open Go.RowKit

/-- Strike an object. -/
def dk : List (Nat × AO) → Nat → List (Nat × AO)
  | [], _ => []
  | (k, x) :: l, t => bif Nat.beq k t then dk l t else (k, x) :: dk l t
theorem lk_dk : ∀ (l : List (Nat × AO)) (t u : Nat), lk (dk l t) u = if t = u then none else lk l u
  | [], t, u => by simp [dk, lk]
  | (k, x) :: l, t, u => by
    unfold dk
    by_cases h : k = t
    · rw [show Nat.beq k t = true from by rw [h]; exact Nat.beq_refl t, cond_true, lk_dk l t u, lk_cons]
      by_cases hu : t = u
      · rw [if_pos hu, if_pos hu]
      · rw [if_neg hu, if_neg hu, if_neg (by omega)]
    · rw [show Nat.beq k t = false from by rw [← Bool.not_eq_true]; exact fun e => h (Nat.eq_of_beq_eq_true e), cond_false, lk_cons, lk_cons, lk_dk l t u]
      by_cases hk : k = u
      · rw [if_pos hk, if_pos hk, if_neg (by omega)]
      · rw [if_neg hk, if_neg hk]

/-- What spoke of the object id says x, or nothing. -/
def fz (av : AV) (id : Nat) (own : AV) (ptr : Nat → AV) : AV := match av with
  | .own k => bif Nat.beq k id then own else .own k
  | .ptr k off => bif Nat.beq k id then ptr off else .ptr k off
  | .eptr k sz i j => bif Nat.beq k id then .dead else .eptr k sz i j
  | av => av
def fzs (id : Nat) (own : AV) (ptr : Nat → AV) : List (Nat × AV) → List (Nat × AV)
  | [] => []
  | (t, av) :: l => (t, fz av id own ptr) :: fzs id own ptr l
theorem lk_fzs {id : Nat} {own : AV} {ptr : Nat → AV} : ∀ (l : List (Nat × AV)) (t : Nat) (av : AV), lk (fzs id own ptr l) t = some av → ∃ av', lk l t = some av' ∧ av = fz av' id own ptr
  | [], t, av, h => by cases h
  | (k, x) :: l, t, av, h => by
    unfold fzs at h
    rw [lk_cons] at h ⊢
    split at h
    · rename_i e; cases h; rw [if_pos e]; exact ⟨x, rfl, rfl⟩
    · rename_i e; rw [if_neg e]; exact lk_fzs l t av h

/-- Without the object id. -/
def less (ρ : Rho) (id : Nat) : Rho := fun k => if k = id then none else ρ k

theorem AR.fz {ρ : Rho} {B0 : BS} {w : World} {av own : AV} {ptr : Nat → AV} {id : Nat} {c v : Value} (hid : ρ id = some v) (h : AR ρ (Bd ρ B0) w av c) (hown : (∃ a n cap, v = .slice a n cap) → AR (less ρ id) (Bd (less ρ id) B0) w own v)
    (hptr : ∀ g off, v = .pointer (some ⟨g, 0, none⟩) → AR (less ρ id) (Bd (less ρ id) B0) w (ptr off) (.pointer (some ⟨g, off, none⟩))) : AR (less ρ id) (Bd (less ρ id) B0) w (Go.Proofs.Ytkcagkcphobmfaa.fz av id own ptr) c := by
  have hK : Keep (Bd ρ B0) w w := ⟨Nat.le_refl _, fun _ _ _ => rfl⟩
  have hB : ∀ b, b < w.heap.size → Bd (less ρ id) B0 b → Bd ρ B0 b := by
    rintro b _ (h | ⟨k, u, h1, h2⟩)
    · exact Or.inl h
    · unfold less at h1
      split at h1
      · cases h1
      · exact Or.inr ⟨k, u, h1, h2⟩
  have keep : (∀ k, av.on k = true → k ≠ id) → AR (less ρ id) (Bd (less ρ id) B0) w av c := fun hne => AR.mv hK hB (fun k hk => by unfold less; rw [if_neg (hne k hk)]) h
  cases av with
  | own k =>
    show AR _ _ _ (bif Nat.beq k id then own else .own k) c
    by_cases e : k = id
    · subst e
      rw [Nat.beq_refl, cond_true]
      obtain ⟨h1, h2⟩ := h
      rw [hid] at h1; cases h1
      exact hown h2
    · rw [show Nat.beq k id = false from by rw [← Bool.not_eq_true]; exact fun h => e (Nat.eq_of_beq_eq_true h), cond_false]
      exact keep (fun k' hk' => by have : k = k' := Nat.eq_of_beq_eq_true hk'; omega)
  | ptr k off =>
    show AR _ _ _ (bif Nat.beq k id then ptr off else .ptr k off) c
    by_cases e : k = id
    · subst e
      rw [Nat.beq_refl, cond_true]
      obtain ⟨g, h1, rfl⟩ := h
      rw [hid] at h1; cases h1
      exact hptr g off rfl
    · rw [show Nat.beq k id = false from by rw [← Bool.not_eq_true]; exact fun h => e (Nat.eq_of_beq_eq_true h), cond_false]
      exact keep (fun k' hk' => by have : k = k' := Nat.eq_of_beq_eq_true hk'; omega)
  | eptr k sz i j =>
    show AR _ _ _ (bif Nat.beq k id then .dead else .eptr k sz i j) c
    by_cases e : k = id
    · subst e
      rw [Nat.beq_refl, cond_true]
      trivial
    · rw [show Nat.beq k id = false from by rw [← Bool.not_eq_true]; exact fun h => e (Nat.eq_of_beq_eq_true h), cond_false]
      exact keep (fun k' hk' => by have : k = k' := Nat.eq_of_beq_eq_true hk'; omega)
  | d x => exact keep (fun k hk => by cases hk)
  | tup x => exact keep (fun k hk => by cases hk)
  | dead => trivial

theorem Core.less {ρ : Rho} {B0 : BS} {w0 w : World} {hp : List (Nat × AO)} {id : Nat} (h : Core ρ B0 w0 w hp) : Core (less ρ id) B0 w0 w (dk hp id) := by
  have hK : Keep (Bd ρ B0) w w := ⟨Nat.le_refl _, fun _ _ _ => rfl⟩
  have hsub : ∀ k v, Go.Proofs.Ytkcagkcphobmfaa.less ρ id k = some v → k ≠ id ∧ ρ k = some v := by
    intro k v hk
    unfold Go.Proofs.Ytkcagkcphobmfaa.less at hk
    split at hk
    · cases hk
    · rename_i e; exact ⟨e, hk⟩
  refine ⟨h.bel, h.b0, fun k v hk => ?_, fun k k' v v' b h1 h2 h3 h4 => h.dist k k' v v' b (hsub _ _ h1).2 (hsub _ _ h2).2 h3 h4⟩
  obtain ⟨h1, h2⟩ := hsub k v hk
  obtain ⟨ob, h3, h4⟩ := h.obj k v h2
  refine ⟨ob, by rw [lk_dk, if_neg (fun e => h1 e.symm)]; exact h3, h4.mv hK (fun b _ hb => ?_) (fun _ _ => rfl)⟩
  rcases hb with hb | ⟨k', u, h5, h6⟩
  · exact Or.inl hb
  · exact Or.inr ⟨k', u, (hsub _ _ h5).2, h6⟩

/-- The object's block is nobody else's. -/
theorem Core.lone {ρ : Rho} {B0 : BS} {w0 w : World} {hp : List (Nat × AO)} {id b : Nat} {v : Value} (h : Core ρ B0 w0 w hp) (hid : ρ id = some v) (hb : vblk v = some b) : ¬ Bd (Go.Proofs.Ytkcagkcphobmfaa.less ρ id) B0 b := by
  obtain ⟨ob, _, h2⟩ := h.obj id v hid
  obtain ⟨h3, _⟩ := h2.blk b hb
  rintro (h4 | ⟨k, u, h4, h5⟩)
  · have := h.b0 b h4; omega
  · unfold Go.Proofs.Ytkcagkcphobmfaa.less at h4
    split at h4
    · cases h4
    · rename_i e; exact e (h.dist k id u v b h4 hid h5 hb)

theorem less_sub {ρ : Rho} {B0 : BS} {id : Nat} (b : Nat) (h : Bd (less ρ id) B0 b) : Bd ρ B0 b := by
  rcases h with h | ⟨k, u, h1, h2⟩
  · exact Or.inl h
  · unfold less at h1
    split at h1
    · cases h1
    · exact Or.inr ⟨k, u, h1, h2⟩

/-- A row of the frame's own is written no more. -/
theorem wkRow {s : AS} (id : Nat) {e : TypeId} {sz n : Nat} {el : Nat → Nat → Lf} (h : lk s.hp id = some (.row e sz n el)) : Wk s ⟨s.n, fzs id (.d (.one (.row sz n el))) (fun _ => .dead) s.sl, dk s.hp id⟩ := by
  rintro B0 w0 a w ⟨ρ, hc, hsz, hdf, hs⟩
  have hK : Keep (Bd ρ B0) w w := ⟨Nat.le_refl _, fun _ _ _ => rfl⟩
  cases hid : ρ id with
  | none =>
    have hl : less ρ id = ρ := by
      funext k; unfold less; split
      · rename_i e; rw [e, hid]
      · rfl
    refine ⟨less ρ id, hc.less, hsz, hdf, fun t av ht => ?_⟩
    obtain ⟨av', h1, rfl⟩ := lk_fzs _ _ _ ht
    obtain ⟨c, h2, h3⟩ := hs t av' h1
    refine ⟨c, h2, ?_⟩
    rw [hl]
    cases av' with
    | own k =>
      have : k ≠ id := fun e => by subst e; rw [h3.1] at hid; cases hid
      have hb : Nat.beq k id = false := by rw [← Bool.not_eq_true]; exact fun h => this (Nat.eq_of_beq_eq_true h)
      simp only [fz, hb, cond_false]; exact h3
    | ptr k off =>
      have : k ≠ id := fun e => by subst e; obtain ⟨g, h4, _⟩ := h3; rw [h4] at hid; cases hid
      have hb : Nat.beq k id = false := by rw [← Bool.not_eq_true]; exact fun h => this (Nat.eq_of_beq_eq_true h)
      simp only [fz, hb, cond_false]; exact h3
    | eptr k sz' i j =>
      have : k ≠ id := fun e => by subst e; obtain ⟨g, _, _, h4, _⟩ := h3; rw [h4] at hid; cases hid
      have hb : Nat.beq k id = false := by rw [← Bool.not_eq_true]; exact fun h => this (Nat.eq_of_beq_eq_true h)
      simp only [fz, hb, cond_false]; exact h3
    | d x => exact h3
    | tup x => exact h3
    | dead => trivial
  | some v =>
    refine ⟨less ρ id, hc.less, hsz, hdf, fun t av ht => ?_⟩
    obtain ⟨av', h1, rfl⟩ := lk_fzs _ _ _ ht
    obtain ⟨c, h2, h3⟩ := hs t av' h1
    refine ⟨c, h2, h3.fz hid (fun _ => ?_) (fun _ _ _ => trivial)⟩
    obtain ⟨ob, o1, o2⟩ := hc.obj id v hid
    rw [h] at o1
    cases o1
    obtain ⟨xs, ⟨hxl, hown⟩, hel⟩ := o2
    rcases hown with ⟨rfl, h0⟩ | ⟨g, cap, cur, rfl, hge, hblk, hn, hm, hsz', htk⟩
    · subst h0
      exact ⟨none, 0, rfl, Nat.le_refl _, fun _ => rfl, fun i hi => absurd hi (Nat.not_lt_zero _)⟩
    · refine ⟨some ⟨g, 0, none⟩, cap, rfl, hn, fun h => (by cases h), fun i hi => ⟨g, 0, rfl, hc.lone hid rfl, lt_of_block hblk, fun j hj => ?_⟩⟩
      obtain ⟨x, hx1, hx2⟩ := hel i j hi hj
      refine ⟨x, ?_, LfR.mv hK (fun b _ hb => less_sub b hb) _ hx2⟩
      rw [Nat.zero_add, cell_of_row w g _ cur _ (0, 0) hblk, ← Array.getElem?_toList]
      rw [← htk, List.getElem?_take] at hx1
      split at hx1
      · exact hx1
      · cases hx1

/-- A variable of the frame's own is written no more. -/
theorem wkBox {s : AS} (id : Nat) {t : TypeId} {cs : List Lf} (h : lk s.hp id = some (.box t cs)) : Wk s ⟨s.n, fzs id .dead (fun off => .d (.one (.at (cs.length - off) fun q => (cs[off + q]?).getD (.v undef)))) s.sl, dk s.hp id⟩ := by
  rintro B0 w0 a w ⟨ρ, hc, hsz, hdf, hs⟩
  have hK : Keep (Bd ρ B0) w w := ⟨Nat.le_refl _, fun _ _ _ => rfl⟩
  cases hid : ρ id with
  | none =>
    have hl : less ρ id = ρ := by
      funext k; unfold less; split
      · rename_i e; rw [e, hid]
      · rfl
    refine ⟨less ρ id, hc.less, hsz, hdf, fun t av ht => ?_⟩
    obtain ⟨av', h1, rfl⟩ := lk_fzs _ _ _ ht
    obtain ⟨c, h2, h3⟩ := hs t av' h1
    refine ⟨c, h2, ?_⟩
    rw [hl]
    cases av' with
    | own k =>
      have : k ≠ id := fun e => by subst e; rw [h3.1] at hid; cases hid
      have hb : Nat.beq k id = false := by rw [← Bool.not_eq_true]; exact fun h => this (Nat.eq_of_beq_eq_true h)
      simp only [fz, hb, cond_false]; exact h3
    | ptr k off =>
      have : k ≠ id := fun e => by subst e; obtain ⟨g, h4, _⟩ := h3; rw [h4] at hid; cases hid
      have hb : Nat.beq k id = false := by rw [← Bool.not_eq_true]; exact fun h => this (Nat.eq_of_beq_eq_true h)
      simp only [fz, hb, cond_false]; exact h3
    | eptr k sz' i j =>
      have : k ≠ id := fun e => by subst e; obtain ⟨g, _, _, h4, _⟩ := h3; rw [h4] at hid; cases hid
      have hb : Nat.beq k id = false := by rw [← Bool.not_eq_true]; exact fun h => this (Nat.eq_of_beq_eq_true h)
      simp only [fz, hb, cond_false]; exact h3
    | d x => exact h3
    | tup x => exact h3
    | dead => trivial
  | some v =>
    refine ⟨less ρ id, hc.less, hsz, hdf, fun t' av ht => ?_⟩
    obtain ⟨av', h1, rfl⟩ := lk_fzs _ _ _ ht
    obtain ⟨c, h2, h3⟩ := hs t' av' h1
    refine ⟨c, h2, h3.fz hid (fun _ => trivial) (fun g off hv => ?_)⟩
    obtain ⟨ob, o1, g', us, he, hge, hb, hul⟩ : ∃ ob, lk s.hp id = some ob ∧ ∃ g us, v = .pointer (some ⟨g, 0, none⟩) ∧ w0.heap.size ≤ g ∧ Blk w g t us ∧ LsR (Bd ρ B0) w cs us := by
      obtain ⟨ob, o1, o2⟩ := hc.obj id v hid
      rw [h] at o1
      cases o1
      exact ⟨_, h, o2⟩
    rw [hv] at he
    cases he
    refine ⟨g, off, rfl, hc.lone hid (by rw [hv]; rfl), hb.lt, fun j hj => ?_⟩
    obtain ⟨l, hl⟩ : ∃ l, cs[off + j]? = some l := ⟨cs[off + j]'(by omega), by simp⟩
    obtain ⟨x, hx, hr⟩ := hul.get hl
    obtain ⟨q1, q2⟩ := List.getElem?_eq_some_iff.1 hx
    refine ⟨x, by rw [← q2]; exact hb.cell _ q1, ?_⟩
    show LfR _ _ ((cs[off + j]?).getD _) x
    rw [hl]
    exact LfR.mv hK (fun b _ hb => less_sub b hb) _ hr

/-- An empty row (nil) is taken for the frame's own. -/
theorem wkNil {s : AS} (t id : Nat) (e : TypeId) (sz : Nat) (el : Nat → Nat → Lf) (h : lk s.sl t = some (.d (.one (.v (.slice none 0 0))))) (hfr : lk s.hp id = none) : Wk s ⟨s.n, (t, .own id) :: s.sl, (id, .row e sz 0 el) :: s.hp⟩ := by
  rintro B0 w0 a w ⟨ρ, hc, hsz, hdf, hs⟩
  have hρ : ρ id = none := by
    cases hρ : ρ id with
    | none => rfl
    | some u => obtain ⟨ob', h1, _⟩ := hc.obj id u hρ; rw [hfr] at h1; cases h1
  have hv : ∀ b, vblk (.slice none 0 0) = some b → w.heap.size ≤ b := fun b hb => by cases hb
  have hc' : Core (up ρ id (.slice none 0 0)) B0 w0 w ((id, .row e sz 0 el) :: s.hp) := hc.new (ob := .row e sz 0 el) hρ (Below.refl _ _) hv (fun k ob' hk hne => by rw [lk_cons, if_neg (fun e => hne e.symm)]; exact hk) (by rw [lk_cons, if_pos rfl])
    ⟨[], World.ownsRow_nil w _ e sz, fun i j hi => absurd hi (Nat.not_lt_zero _)⟩
  refine ⟨_, hc', hsz, hdf, fun u av hu => ?_⟩
  rw [lk_cons] at hu
  split at hu
  · rename_i e'
    cases hu
    subst e'
    obtain ⟨v, h1, h2, _⟩ := hs t _ h
    exact ⟨v, h1, by rw [h2]; simp [up], none, 0, 0, h2⟩
  · obtain ⟨v, h1, h2⟩ := hs u av hu
    exact ⟨v, h1, h2.new hρ (Below.refl _ _) hv⟩

/-- What is appended. -/
def srcOf (s : AS) (y : Operand) (sz : Nat) : Option (Nat × (Nat → Nat → Lf)) := match geto s y with
  | some (.d (.one (.row sz' m el))) => bif Nat.beq sz sz' then some (m, el) else none
  | some (.d (.one (.v (.slice none 0 0)))) => some (0, fun _ _ => .v undef)
  | _ => none

theorem srcOf_ok {s : AS} {ρ : Rho} {B : BS} {w : World} {a : Act} {y : Operand} {sz m : Nat} {el : Nat → Nat → Lf} (hs : Slots ρ B w s.sl a) (h : srcOf s y sz = some (m, el)) :
    ∃ ao c, ∃ news : List Value, a.eval y = .slice ao m c ∧ news.length = m * sz ∧ (ao = none → c = 0) ∧ m ≤ c ∧ CellsAt w ao news ∧ ∀ i j, i < m → j < sz → ∃ x, news[i * sz + j]? = some x ∧ LfR B w (el i j) x := by
  unfold srcOf at h
  split at h
  · rename_i sz' m' el' hy
    cases hb : Nat.beq sz sz' with
    | false => rw [hb] at h; cases h
    | true =>
      rw [hb] at h
      cases h
      obtain rfl := Nat.eq_of_beq_eq_true hb
      obtain ⟨ao, cap, he, hle, hnil, hel⟩ := (geto_ok hs hy : LfR _ _ _ _)
      rcases Nat.eq_zero_or_pos m with hm | hm
      · subst hm
        exact ⟨ao, cap, [], he, by simp, hnil, Nat.zero_le _, Or.inl rfl, fun i j hi => absurd hi (Nat.not_lt_zero _)⟩
      · obtain ⟨b, off, rfl, hb, hlt, _⟩ := hel 0 hm
        have hcell : ∀ i j, i < m → j < sz → ∃ x, w.cell? ⟨b, off + (i * sz + j), none⟩ = some x ∧ LfR B w (el i j) x := by
          intro i j hi hj
          obtain ⟨b', off', he', _, _, h2⟩ := hel i hi
          cases he'
          obtain ⟨x, hx, hl⟩ := h2 j hj
          exact ⟨x, by rw [← Nat.add_assoc]; exact hx, hl⟩
        have hget : ∀ q, q < m * sz → ((List.range (m * sz)).map fun q => (w.cell? ⟨b, off + q, none⟩).getD undef)[q]? = some ((w.cell? ⟨b, off + q, none⟩).getD undef) := by
          intro q hq
          rw [List.getElem?_map, List.getElem?_range hq]; rfl
        have hdec : ∀ q, q < m * sz → ∃ x, w.cell? ⟨b, off + q, none⟩ = some x := by
          intro q hq
          have hsz : 0 < sz := Nat.pos_of_ne_zero (fun e => by subst e; omega)
          have h1 : q / sz < m := Nat.div_lt_of_lt_mul (by rw [Nat.mul_comm]; exact hq)
          obtain ⟨x, hx, _⟩ := hcell (q / sz) (q % sz) h1 (Nat.mod_lt _ hsz)
          rw [Nat.mul_comm, Nat.div_add_mod] at hx
          exact ⟨x, hx⟩
        refine ⟨some ⟨b, off, none⟩, cap, (List.range (m * sz)).map (fun q => (w.cell? ⟨b, off + q, none⟩).getD undef), he, by simp, hnil, hle, Or.inr ⟨b, off, rfl, fun q hq => ?_⟩, fun i j hi hj => ?_⟩
        · have hq' : q < m * sz := by simpa using hq
          obtain ⟨x, hx⟩ := hdec q hq'
          simp [hx]
        · obtain ⟨x, hx, hl⟩ := hcell i j hi hj
          have hidx : i * sz + j < m * sz := by
            have : (i + 1) * sz ≤ m * sz := Nat.mul_le_mul_right _ (by omega)
            rw [Nat.add_mul, Nat.one_mul] at this
            omega
          refine ⟨x, ?_, hl⟩
          rw [hget _ hidx, hx]; rfl
  · rename_i hy
    cases h
    have he := (geto_ok hs hy : LfR _ _ _ _).1
    exact ⟨none, 0, [], he, by simp, fun _ => rfl, Nat.le_refl _, Or.inl rfl, fun i j hi => absurd hi (Nat.not_lt_zero _)⟩
  · cases h

def appEl (n : Nat) (el el2 : Nat → Nat → Lf) : Nat → Nat → Lf := fun i j => bif Nat.ble (i + 1) n then el i j else el2 (i - n) j

set_option maxHeartbeats 1000000 in
/-- APPEND to a row of the frame's own. -/
theorem mA {P : Program} {T : TypeId → Option TI} (hT : TOk P T) {ops : Array Oper} {Q : Qs} {o : Oper} {l : List Oper} {s : AS} {c : Call} {x y : Operand} {t e : TypeId} {ti te : TI} {id n m d : Nat} {el el2 : Nat → Nat → Lf}
    (hx : geto s x = some (.own id)) (hob : lk s.hp id = some (.row e te.n n el)) (hy : srcOf s y te.n = some (m, el2)) (hbd : (n + m) * te.bytes ≤ 140737488355328) (hmx : n + m ≤ 9223372036854775807) (hc : callOf o.op = some c) (hcal : c.callee = .builtin .append) (hargs : c.args.toList = [x, y]) (hty : c.argTypes.toList = [t, t]) (hti : T t = some ti) (he : ti.elem = some e) (hte : T e = some te) (hz : Nat.beq te.zero.length te.n = true) (h0 : Nat.ble 1 te.n = true)
    (hdst : o.dst = some d) (k : AL P ops Q l ⟨s.n, (d, .own id) :: fzs id .dead (fun _ => .dead) s.sl, (id, .row e te.n (n + m) (appEl n el el2)) :: s.hp⟩) (hg : gst ops s o = some true := by rfl) (hd : dok (some d) s.n = true := by rfl) : AL P ops Q (o :: l) s := by
  rintro B0 w0 a w ⟨ρ, hcr, hn, hdf, hs⟩
  have hop : o.op = .call c := by
    unfold callOf at hc
    split at hc
    · rename_i h; cases hc; exact h
    · cases hc
  obtain ⟨hid, ad, n', cap, hxe⟩ := geto_ok hs hx
  obtain ⟨ob, o1, o2⟩ := hcr.obj id _ hid
  rw [hob] at o1
  cases o1
  obtain ⟨xs, hown, hel⟩ := o2
  obtain ⟨ao, cc, news, hye, hnl, hnil, hmc, hsrc, hel2⟩ := srcOf_ok hs hy
  obtain ⟨i, z, dd, h1, h2, h3, h4, h5, h6, h7, h8, h9, _⟩ := ti_parts (hT _ _ hti)
  have := h9 e he
  subst this
  obtain ⟨i', z', dd', k1, k2, k3, k4, k5, k6, k7, _⟩ := ti_parts (hT _ _ hte)
  have hzl : te.zero.length = te.n := Nat.eq_of_beq_eq_true hz
  have hsz : 0 < te.n := Nat.le_of_ble_eq_true h0
  have hzs : z'.cells.size = te.n := by rw [← hzl, ← k5]; simp
  have hone : ∀ u ∈ news, u.oneCell' = true := by
    intro u hu
    obtain ⟨q, hq, rfl⟩ := List.mem_iff_getElem.1 hu
    rw [hnl] at hq
    have hdiv : q / te.n < m := Nat.div_lt_of_lt_mul (by rw [Nat.mul_comm]; exact hq)
    obtain ⟨u, hu1, hu2⟩ := hel2 (q / te.n) (q % te.n) hdiv (Nat.mod_lt _ hsz)
    rw [Nat.mul_comm, Nat.div_add_mod] at hu1
    obtain ⟨_, hu3⟩ := List.getElem?_eq_some_iff.1 hu1
    rw [hu3]; exact hu2.one
  have hsize : w0.heap.size ≤ w.heap.size := hcr.bel.size
  obtain ⟨v', w', hr, hown', hgrow, hblk⟩ := run_append_am (P := P) (w := w) w0.heap.size t o.type e i' z' te.n te.bytes h3 k1 k2 k4 k7 hzs hsz (a.eval x) n xs hown ao m cc news hnl hnil hmc hsrc hone (by simp [maxLen]; omega) hbd hsize
  have hrun : (execOp a.eval o).run P w = .ok (.value v') w' := by
    have ha : c.args = #[x, y] := by rw [← Array.toList_inj]; exact hargs
    have ht : c.argTypes = #[t, t] := by rw [← Array.toList_inj]; exact hty
    unfold execOp
    rw [hop]
    simp [resolve, hcal, invoke, builtin, ha, ht, hye, hr]
  have hvb : ∀ b, (a.eval x).ownBlock = some b → vblk (a.eval x) = some b := by
    intro b hb
    rw [hxe] at hb ⊢
    cases ad with
    | none => cases hb
    | some q => exact hb
  have hlt := hown.lt
  have hbel : Below w0.heap.size w0 w' := hcr.bel.trans ((Below.refl _ _).grown hgrow hsize (fun k hk => (hlt k hk).1))
  have hkeepb : ∀ b, b < w.heap.size → vblk (a.eval x) ≠ some b → w'.heap[b]? = w.heap[b]? := fun b hb hne => hgrow.block b hb (fun e => hne (hvb b e.symm))
  have hK : Keep (Bd ρ B0) w w' := ⟨hgrow.size, fun b hb hB => hkeepb b hb (fun e => hB (Or.inr ⟨id, _, hid, e⟩))⟩
  have hB' : ∀ b, b < w.heap.size → Bd (up ρ id v') B0 b → Bd ρ B0 b := by
    rintro b hb (h | ⟨k, u, q1, q2⟩)
    · exact Or.inl h
    · unfold up at q1
      split at q1
      · cases q1
        rcases hblk b q2 with q3 | q3
        · exact Or.inr ⟨id, _, hid, q3⟩
        · omega
      · exact Or.inr ⟨k, u, q1, q2⟩
  have hW := Core.write (v' := v') (ob' := .row e te.n (n + m) (appEl n el el2)) (hp' := (id, .row e te.n (n + m) (appEl n el el2)) :: s.hp) hcr hid (w' := w') hkeepb hgrow.size hbel hblk
    (fun k ob hk hne => by rw [lk_cons, if_neg (fun e => hne e.symm)]; exact hk) (by rw [lk_cons, if_pos rfl])
    ⟨xs ++ news, hown', fun p q hp hq => by
      have hxl := hown.1
      by_cases hpn : p < n
      · obtain ⟨u, hu1, hu2⟩ := hel p q hpn hq
        have hidx := (List.getElem?_eq_some_iff.1 hu1).1
        refine ⟨u, by rw [List.getElem?_append_left hidx]; exact hu1, ?_⟩
        have : appEl n el el2 p q = el p q := by
          unfold appEl; rw [show Nat.ble (p + 1) n = true from Nat.ble_eq_true_of_le hpn]; rfl
        rw [this]
        exact LfR.mv hK hB' _ hu2
      · obtain ⟨u, hu1, hu2⟩ := hel2 (p - n) q (by omega) hq
        have hpm : p * te.n + q = n * te.n + ((p - n) * te.n + q) := by
          rw [← Nat.add_assoc, ← Nat.add_mul]
          congr 2
          omega
        refine ⟨u, by rw [hpm, List.getElem?_append_right (by omega), hxl, Nat.add_sub_cancel_left]; exact hu1, ?_⟩
        have : appEl n el el2 p q = el2 (p - n) q := by
          unfold appEl; rw [show Nat.ble (p + 1) n = false from by rw [← Bool.not_eq_true]; exact fun h => hpn (Nat.le_of_ble_eq_true h)]; rfl
        rw [this]
        exact LfR.mv hK hB' _ hu2⟩
  refine wpl_value (gst_ok hg hs) hrun (k B0 w0 _ w' ⟨up ρ id v', hW.1, by rw [hdst]; show (a.tmps.setIfInBounds d v').size = s.n; simpa using hn, by rw [hdst]; exact hdf, ?_⟩)
  rw [hdst]
  have hsl2 : Slots (up ρ id v') (Bd (up ρ id v') B0) w' (fzs id .dead (fun _ => .dead) s.sl) a := by
    intro u av hu
    obtain ⟨av', q1, rfl⟩ := lk_fzs _ _ _ hu
    obtain ⟨v, q2, q3⟩ := hs u av' q1
    refine ⟨v, q2, ?_⟩
    have keep : (∀ k, av'.on k = true → k ≠ id) → AR (up ρ id v') (Bd (up ρ id v') B0) w' av' v := fun hne => AR.mv hK hB' (fun k hk => by unfold up; rw [if_neg (hne k hk)]) q3
    cases av' with
    | own k =>
      show AR _ _ _ (bif Nat.beq k id then .dead else .own k) v
      cases e : Nat.beq k id with
      | true => trivial
      | false => exact keep (fun k' hk' => by have : k = k' := Nat.eq_of_beq_eq_true hk'; rintro rfl; rw [this, Nat.beq_refl] at e; cases e)
    | ptr k off =>
      show AR _ _ _ (bif Nat.beq k id then .dead else .ptr k off) v
      cases e : Nat.beq k id with
      | true => trivial
      | false => exact keep (fun k' hk' => by have : k = k' := Nat.eq_of_beq_eq_true hk'; rintro rfl; rw [this, Nat.beq_refl] at e; cases e)
    | eptr k sz i j =>
      show AR _ _ _ (bif Nat.beq k id then .dead else .eptr k sz i j) v
      cases e : Nat.beq k id with
      | true => trivial
      | false => exact keep (fun k' hk' => by have : k = k' := Nat.eq_of_beq_eq_true hk'; rintro rfl; rw [this, Nat.beq_refl] at e; cases e)
    | d x => exact keep (fun k hk => by cases hk)
    | tup x => exact keep (fun k hk => by cases hk)
    | dead => trivial
  refine slots_put hsl2 hn (Nat.le_of_ble_eq_true hd) ⟨by simp [up], ?_⟩
  obtain ⟨_, ⟨rfl, _⟩ | ⟨g, cap', cur, rfl, _⟩⟩ := hown'
  · exact ⟨none, 0, 0, rfl⟩
  · exact ⟨_, _, _, rfl⟩

end Go.Proofs.Ytkcagkcphobmfaa
