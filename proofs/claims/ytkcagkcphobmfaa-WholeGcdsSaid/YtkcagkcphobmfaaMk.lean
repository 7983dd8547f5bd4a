/-
  THE ABSTRACT MACHINE, 11: the rule for a region that draws its order. No condition; nothing of the program.
-/
import Derived.Test.YtkcagkcphobmfaaMj
set_option linter.unusedVariables false
set_option linter.unusedSimpArgs false
namespace Go.Proofs.Ytkcagkcphobmfaa
open Go.RowKit Am

def avh (s : AS) : AV := match s.sl with
  | (_, av) :: _ => av
  | [] => .dead

section
variable {P : Program} {T : TypeId → Option TI} {ops : Array Oper} {o : Oper} {Q : Qs}

theorem OpS.shape {s s' : AS} {d : Nat} (h : OpS P T ops o s s') (hd : o.dst = some d) : s'.n = s.n ∧ s'.sl = (d, avh s') :: s.sl ∧ (s'.hp = s.hp ∨ ∃ ob, lk s.hp d = none ∧ s'.hp = (d, ob) :: s.hp) := by
  cases h with
  | V av h hg hk => simp [AS.put, hd, avh]
  | B av h hg hk => simp [AS.put, hd, avh]
  | G hg hk => simp [AS.put, hd, avh]
  | C h hc hf ha hg hk => simp [AS.put, hd, avh]
  | N ob h d' hdst hfr hg hk =>
    rw [hd] at hdst
    cases hdst
    exact ⟨rfl, rfl, Or.inr ⟨ob, hfr, rfl⟩⟩

/-- What the states on the way have in common. -/
structure Way (l : List Oper) (n : Nat) (st : Nat → AS) : Prop where
  nn : ∀ i : Nat, i ≤ n → (st i).n = (st 0).n
  sl : ∀ (i : Nat) (o : Oper) (d : Nat), i < n → l[i]? = some o → o.dst = some d → (st (i + 1)).sl = (d, avh (st (i + 1))) :: (st i).sl
  hp : ∀ i j : Nat, i ≤ j → j ≤ n → ∀ (id : Nat) (ob : AO), lk (st i).hp id = some ob → lk (st j).hp id = some ob
  new : ∀ i : Nat, i ≤ n → ∀ (id : Nat) (ob : AO), lk (st i).hp id = some ob → (lk (st 0).hp id).isSome = true ∨ ∃ (k : Nat) (o : Oper), k < i ∧ l[k]? = some o ∧ o.dst = some id

theorem way {l : List Oper} {n : Nat} {st : Nat → AS} (hd : ∀ i o, i < n → l[i]? = some o → ∃ d, o.dst = some d) (hl : n ≤ l.length) (h : ∀ i o, i < n → l[i]? = some o → OpS P T ops o (st i) (st (i + 1))) : Way l n st := by
  have step : ∀ i, i < n → ∃ o d, l[i]? = some o ∧ o.dst = some d ∧ (st (i + 1)).n = (st i).n ∧ (st (i + 1)).sl = (d, avh (st (i + 1))) :: (st i).sl ∧ ((st (i + 1)).hp = (st i).hp ∨ ∃ ob, lk (st i).hp d = none ∧ (st (i + 1)).hp = (d, ob) :: (st i).hp) := by
    intro i hi
    have ho : l[i]? = some (l[i]'(by omega)) := by simp
    obtain ⟨d, hdd⟩ := hd i _ hi ho
    exact ⟨_, d, ho, hdd, (h i _ hi ho).shape hdd⟩
  have hp1 : ∀ i, i < n → ∀ id ob, lk (st i).hp id = some ob → lk (st (i + 1)).hp id = some ob := by
    intro i hi id ob hk
    obtain ⟨o, d, _, _, _, _, h1 | ⟨ob', h1, h2⟩⟩ := step i hi
    · rw [h1]; exact hk
    · rw [h2, lk_cons, if_neg (fun e => by rw [e, hk] at h1; cases h1)]; exact hk
  refine ⟨fun i hi => ?_, fun i o d hi ho hdd => ?_, fun i j hij hj => ?_, fun i => ?_⟩
  · induction i with
    | zero => rfl
    | succ i ih =>
      obtain ⟨o, d, _, _, h1, _⟩ := step i (by omega)
      rw [h1, ih (by omega)]
  · obtain ⟨o', d', h1, h2, _, h3, _⟩ := step i hi
    rw [ho] at h1; cases h1
    rw [hdd] at h2; cases h2
    exact h3
  · induction j with
    | zero =>
      have : i = 0 := by omega
      subst this
      exact fun _ _ h => h
    | succ j ih =>
      intro id ob hk
      by_cases hij' : i = j + 1
      · subst hij'; exact hk
      · exact hp1 j (by omega) id ob (ih (by omega) (by omega) id ob hk)
  · induction i with
    | zero =>
      intro hi id ob hk
      exact Or.inl (by rw [hk]; rfl)
    | succ i ih =>
      intro hi id ob hk
      obtain ⟨o, d, h1, h2, _, _, h3 | ⟨ob', h3, h4⟩⟩ := step i (by omega)
      · rw [h3] at hk
        rcases ih (by omega) id ob hk with h | ⟨k, o', h5, h6⟩
        · exact Or.inl h
        · exact Or.inr ⟨k, o', by omega, h6⟩
      · rw [h4, lk_cons] at hk
        split at hk
        · rename_i e
          exact Or.inr ⟨i, o, by omega, h1, by rw [h2, e]⟩
        · rcases ih (by omega) id ob hk with h | ⟨k, o', h5, h6⟩
          · exact Or.inl h
          · exact Or.inr ⟨k, o', by omega, h6⟩

theorem Way.at {l : List Oper} {n : Nat} {st : Nat → AS} (hw : Way l n st) (hl : n ≤ l.length) (hd : ∀ i o, i < n → l[i]? = some o → ∃ d, o.dst = some d) (hone : ∀ i k oi ok d, i < n → k < n → l[i]? = some oi → l[k]? = some ok → k ≠ i → ok.dst = some d → oi.dst ≠ some d) :
    ∀ (i : Nat), i ≤ n → ∀ (t : Nat), (∀ (k : Nat) (o : Oper), k < i → l[k]? = some o → o.dst = some t → lk (st i).sl t = some (avh (st (k + 1)))) ∧ ((∀ (k : Nat) (o : Oper), k < i → l[k]? = some o → o.dst ≠ some t) → lk (st i).sl t = lk (st 0).sl t)
  | 0, _, t => ⟨fun k o hk => absurd hk (Nat.not_lt_zero _), fun _ => rfl⟩
  | i + 1, hi, t => by
    obtain ⟨ih1, ih2⟩ := Way.at hw hl hd hone i (by omega) t
    have ho : l[i]? = some (l[i]'(by omega)) := by simp
    obtain ⟨d, hdd⟩ := hd i _ (by omega) ho
    rw [hw.sl i _ d (by omega) ho hdd, lk_cons]
    refine ⟨fun k o hk hko hkd => ?_, fun hno => ?_⟩
    · by_cases hki : k = i
      · subst hki
        rw [ho] at hko
        cases hko
        rw [hdd] at hkd
        cases hkd
        rw [if_pos rfl]
      · rw [if_neg (fun e => hone i k _ o t (by omega) (by omega) ho hko hki hkd (by rw [hdd, e]))]
        exact ih1 k o (by omega) hko hkd
    · rw [if_neg (fun e => hno i _ (by omega) ho (by rw [hdd, e]))]
      exact ih2 (fun k o hk hko => hno k o (by omega) hko)

/-- What holds when the operations of D are done. -/
def Jr (l : List Oper) (n : Nat) (st : Nat → AS) (B0 : BS) (w0 : World) (a0 : Act) (D : Nat → Prop) (vs : Nat → Value) (w : World) : Prop :=
  ∃ ρ, Core ρ B0 w0 w (st n).hp ∧ (∀ id v, ρ id = some v → (lk (st 0).hp id).isSome = true ∨ ∃ k o, k < n ∧ D k ∧ l[k]? = some o ∧ o.dst = some id) ∧
    (∀ t av, lk (st 0).sl t = some av → (∀ k o, k < n → l[k]? = some o → D k → o.dst ≠ some t) → ∃ v, a0.tmps[t]? = some v ∧ AR ρ (Bd ρ B0) w av v) ∧ (∀ k, k < n → D k → AR ρ (Bd ρ B0) w (avh (st (k + 1))) (vs k))

theorem Jr.congr {l : List Oper} {n : Nat} {st : Nat → AS} {B0 : BS} {w0 : World} {a0 : Act} (D D' : Nat → Prop) (vs vs' : Nat → Value) (w : World) (h : Jr l n st B0 w0 a0 D vs w) (hD : ∀ k, k < n → (D k ↔ D' k)) (hv : ∀ k, k < n → D k → vs k = vs' k) : Jr l n st B0 w0 a0 D' vs' w := by
  obtain ⟨ρ, h1, h2, h3, h4⟩ := h
  refine ⟨ρ, h1, fun id v h => ?_, fun t av ht hno => h3 t av ht (fun k o hk ho hDk => hno k o hk ho ((hD k hk).1 hDk)), fun k hk hDk => ?_⟩
  · rcases h2 id v h with h | ⟨k, o, hk, hDk, h⟩
    · exact Or.inl h
    · exact Or.inr ⟨k, o, hk, (hD k hk).1 hDk, h⟩
  · rw [← hv k hk ((hD k hk).2 hDk)]
    exact h4 k hk ((hD k hk).2 hDk)

/-- One more value; the objects are the same ones. -/
theorem Jr.same {l : List Oper} {n : Nat} {st : Nat → AS} {B0 : BS} {w0 : World} {a0 : Act} {D : Nat → Prop} {vs : Nat → Value} {w w' : World} {i : Nat} {v : Value} {ρ : Rho} (hb : Below w.heap.size w w') (h1 : Core ρ B0 w0 w (st n).hp)
    (h2 : ∀ id v, ρ id = some v → (lk (st 0).hp id).isSome = true ∨ ∃ k o, k < n ∧ D k ∧ l[k]? = some o ∧ o.dst = some id)
    (h3 : ∀ t av, lk (st 0).sl t = some av → (∀ k o, k < n → l[k]? = some o → D k → o.dst ≠ some t) → ∃ v, a0.tmps[t]? = some v ∧ AR ρ (Bd ρ B0) w av v)
    (h4 : ∀ k, k < n → D k → AR ρ (Bd ρ B0) w (avh (st (k + 1))) (vs k)) (hv : AR ρ (Bd ρ B0) w' (avh (st (i + 1))) v) (hni : ¬ D i) : Jr l n st B0 w0 a0 (andI D i) (setI vs i v) w' := by
  refine ⟨ρ, h1.below hb, fun id u h => ?_, fun t av ht hno => ?_, fun k hk hDk => ?_⟩
  · rcases h2 id u h with h | ⟨k, o, hk, hDk, h⟩
    · exact Or.inl h
    · exact Or.inr ⟨k, o, hk, Or.inl hDk, h⟩
  · obtain ⟨u, h5, h6⟩ := h3 t av ht (fun k o hk ho hDk => hno k o hk ho (Or.inl hDk))
    exact ⟨u, h5, h6.below hb⟩
  · unfold setI
    by_cases e : k = i
    · rw [if_pos e, e]; exact hv
    · rw [if_neg e]
      rcases hDk with hDk | hDk
      · exact (h4 k hk hDk).below hb
      · exact absurd hDk e

theorem wp_value' {a A : Act} {w w' : World} {v : Value} {K : Act → World → Prop} {Qw : Exit → Act → World → Prop} (hr : (execOp A.eval o).run P w = .ok (.value v) w') (hk : K (A.put o.dst v) w') : o.wp P A w K Qw := by
  unfold Oper.wp
  rw [hr]
  exact hk

set_option maxHeartbeats 1000000 in
/-- A REGION THAT DRAWS: n operations in the order of the text, each a value; then the others one after another. -/
theorem cDraw (hT : TOk P T) {id : Nat} {l : List Oper} (n : Nat) {s s1 : AS} (hm : P.follows .mixedOrders = true) (hB : allB l.toArray n s.n = true) (hch : Ch P T l.toArray (l.take n) s s1) (k : AL P l.toArray Q (l.drop n) s1) : AW P (.region id l.toArray true) Q s := by
  rintro B0 w0 a0 w ⟨ρ0, hc0, hn0, hdf0, hs0⟩
  have hB' := hB
  simp only [allB, Bool.and_eq_true, decide_eq_true_eq, Bool.or_eq_true] at hB'
  obtain ⟨⟨⟨⟨hsel, hreg⟩, hnle⟩, _⟩, _⟩ := hB'
  have hr := regB_ok hreg
  have hnl : n ≤ l.length := by simpa using hnle
  obtain ⟨st, hst0, hstn, hop0⟩ := hch.st
  have hlen : (l.take n).length = n := by simp; omega
  rw [hlen] at hstn
  have hop : ∀ i o, i < n → l[i]? = some o → OpS P T l.toArray o (st i) (st (i + 1)) := fun i o hi ho => hop0 i o (by rw [List.getElem?_take, if_pos hi]; exact ho)
  have hdst : ∀ i o, i < n → l[i]? = some o → ∃ d, o.dst = some d := fun i o hi ho => let ⟨d, h, _⟩ := hr.dst i o hi (by simpa using ho); ⟨d, h⟩
  have hone : ∀ i k oi ok d, i < n → k < n → l[i]? = some oi → l[k]? = some ok → k ≠ i → ok.dst = some d → oi.dst ≠ some d := fun i k oi ok d hi hk hoi hok => hr.one i k oi ok d hi hk (by simpa using hoi) (by simpa using hok)
  have hway := way hdst hnl hop
  have hat := hway.at hnl hdst hone
  subst hst0
  refine wp_region_J (J := Jr l n st B0 w0 a0) n (st 0).n hm hn0 hdf0 hB (fun D D' vs vs' w h => Jr.congr D D' vs vs' w h) ?_ ?_ ?_
  · have hK : Keep (Bd ρ0 B0) w w.drew := ⟨Nat.le_refl _, fun _ _ _ => rfl⟩
    refine ⟨ρ0, ⟨hc0.bel.drew, hc0.b0, fun id v h => ?_, hc0.dist⟩, fun id v h => ?_, fun t av ht _ => ?_, fun k _ h => h.elim⟩
    · obtain ⟨ob, h1, h2⟩ := hc0.obj id v h
      exact ⟨ob, hway.hp 0 n (Nat.zero_le _) (Nat.le_refl _) id ob h1, h2.mv hK (fun _ _ hb => hb) (fun _ _ => rfl)⟩
    · obtain ⟨ob, h1, h2⟩ := hc0.obj id v h
      exact Or.inl (by rw [h1]; rfl)
    · obtain ⟨v, h1, h2⟩ := hs0 t av ht
      exact ⟨v, h1, AR.mv hK (fun _ _ hb => hb) (fun _ _ => rfl) h2⟩
  · intro i o hi ho D vs w' hni hwait hclo hJ
    have ho' : l[i]? = some o := by simpa using ho
    obtain ⟨d, hd, hdN⟩ := hr.dst i o hi ho
    have hA := puts_inv (a0 := a0) (ops := l.toArray) rfl hr hn0 hnl vs i (Nat.le_of_lt hi)
    obtain ⟨ρ, hc, h2, h3, h4⟩ := hJ
    have hSl : Slots ρ (Bd ρ B0) w' (pickS (st i).sl (o.looksAt l.toArray)) (putsR (l.take i) 0 a0 vs) := by
      intro t av ht
      obtain ⟨hts, hlk⟩ := pickS_mem _ t av ht
      by_cases hex : ∃ k ok, k < i ∧ l[k]? = some ok ∧ ok.dst = some t
      · obtain ⟨k, ok, hk, hok, hkd⟩ := hex
        have hok' : l.toArray[k]? = some ok := by simpa using hok
        rw [(hat i (Nat.le_of_lt hi) t).1 k ok hk hok hkd] at hlk
        cases hlk
        refine ⟨vs k, hA.wr k ok t (by omega) hok' hk hkd, h4 k (by omega) ?_⟩
        rcases hr.look i k o ok t hi (by omega) ho hok' (by omega) hkd hts with ⟨_, h⟩ | ⟨h, _⟩
        · exact hwait k h
        · omega
      · have hno : ∀ k ok, k < i → l[k]? = some ok → ok.dst ≠ some t := fun k ok hk hok hkd => hex ⟨k, ok, hk, hok, hkd⟩
        rw [(hat i (Nat.le_of_lt hi) t).2 hno] at hlk
        obtain ⟨v, h5, h6⟩ := h3 t av hlk (fun k ok hk hok hDk hkd => by
          have hok' : l.toArray[k]? = some ok := by simpa using hok
          by_cases hki : k = i
          · subst hki; exact hni hDk
          · rcases hr.look i k o ok t hi hk ho hok' hki hkd hts with ⟨h, _⟩ | ⟨_, h⟩
            · exact hno k ok h hok hkd
            · exact hni (hclo k ok hok' hDk i h))
        refine ⟨v, ?_, h6⟩
        rw [hA.no t (fun k ok hk hok hki => hno k ok hki (by simpa using hok))]
        exact h5
    have hget : ∀ x ∈ o.op.operands, geto (st i) x = geto ⟨(st i).n, pickS (st i).sl (o.looksAt l.toArray), (st i).hp⟩ x := by
      intro x hx
      cases x with
      | tmp t =>
        have hm : t ∈ o.looksAt l.toArray := List.mem_append_left _ (List.mem_filterMap.2 ⟨.tmp t, by simpa using hx, rfl⟩)
        exact (lk_pickS _ t hm).symm
      | const v => cases v <;> rfl
      | _ => rfl
    have hg' : gst l.toArray (st i) o = gst l.toArray ⟨(st i).n, pickS (st i).sl (o.looksAt l.toArray), (st i).hp⟩ o := gst_congr (fun t ht => (lk_pickS _ t ht).symm)
    have hhp := hway.hp i n (Nat.le_of_lt hi) (Nat.le_refl _)
    have hAd : (putsR (l.take i) 0 a0 vs).defers = [] := hA.defs.trans hdf0
    have hAs : d < (putsR (l.take i) 0 a0 vs).tmps.size := by rw [hA.size, hn0]; exact hdN
    have hdef : ∀ v, ((putsR (l.take i) 0 a0 vs).put o.dst v).defers = [] := fun v => by rw [hd]; exact hAd
    have hval : ∀ v, Am.valOf o ((putsR (l.take i) 0 a0 vs).put o.dst v) = v := fun v => Am.valOf_put hd hAs
    have hO := hop i o hi ho'
    have hsh := (hO.shape hd).2.1
    obtain ⟨s2, hs2⟩ : ∃ s2, s2 = st (i + 1) := ⟨_, rfl⟩
    rw [← hs2] at hO hsh
    have havh : ∀ av, s2.sl = (d, av) :: (st i).sl → avh (st (i + 1)) = av := by
      intro av h
      rw [← hs2]
      unfold avh
      rw [h]
    cases hO with
    | V av h hg hk =>
      rw [hg'] at hg
      rw [evV_congr (T := T) (op := o.op) (s := st i) (s' := ⟨(st i).n, pickS (st i).sl (o.looksAt l.toArray), (st i).hp⟩) rfl hget] at h
      obtain ⟨v, hrun, hv⟩ := evV_ok (s := ⟨(st i).n, pickS (st i).sl (o.looksAt l.toArray), (st i).hp⟩) hT hSl hc hhp h
      have hav := havh av (by simp [AS.put, hd])
      refine ifW_pos (gst_ok hg hSl) (wp_value' (a := a0) hrun ⟨hdef v, ?_⟩)
      rw [hval]
      exact Jr.same (Below.refl _ _) hc h2 h3 h4 (by rw [hav]; exact hv) hni
    | B av h hg hk =>
      rw [hg'] at hg
      rw [evB_congr (T := T) (op := o.op) (s := st i) (s' := ⟨(st i).n, pickS (st i).sl (o.looksAt l.toArray), (st i).hp⟩) hget] at h
      obtain ⟨v, w2, hrun, hb, hv⟩ := evB_ok (s := ⟨(st i).n, pickS (st i).sl (o.looksAt l.toArray), (st i).hp⟩) hT hSl hc h
      have hav := havh av (by simp [AS.put, hd])
      refine ifW_pos (gst_ok hg hSl) (wp_value' (a := a0) hrun ⟨hdef v, ?_⟩)
      rw [hval]
      exact Jr.same hb hc h2 h3 h4 (by rw [hav]; exact hv) hni
    | G hg hk =>
      rw [hg'] at hg
      have hav := havh .dead (by simp [AS.put, hd])
      exact ifW_neg (gst_ok hg hSl) (Jr.same (Below.refl _ _) hc h2 h3 h4 (by rw [hav]; trivial) hni)
    | C h hcl hf ha hg hk =>
      rename_i c f cap ds res
      rw [hg'] at hg
      have hop' : o.op = .call c := by
        unfold callOf at hcl
        split at hcl
        · rename_i h; cases hcl; exact h
        · cases hcl
      have hgc : ∀ x ∈ c.operands, geto (st i) x = geto ⟨(st i).n, pickS (st i).sl (o.looksAt l.toArray), (st i).hp⟩ x := fun x hx => hget x (by rw [hop']; exact hx)
      rw [fnOf_congr hgc] at hf
      rw [getds_congr _ (fun x hx => hgc x (Array.mem_append.2 (Or.inr (by simpa using hx))))] at ha
      obtain ⟨us, hus, hrun⟩ := run_call (s := ⟨(st i).n, pickS (st i).sl (o.looksAt l.toArray), (st i).hp⟩) hSl hcl hf ha h.en
      have hav := havh res (by simp [AS.put, hd])
      refine ifW_pos (gst_ok hg hSl) ?_
      unfold Oper.wp
      rw [hrun]
      refine (h.go (Bd ρ B0) w' us hc.bdlt hus).mono ?_
      rintro e w2 ⟨v, rfl, hb, hv⟩
      refine ⟨hdef v, ?_⟩
      rw [hval]
      exact Jr.same hb hc h2 h3 h4 (by rw [hav]; exact hv.lift) hni
    | N ob h d' hdd hfr hg hk =>
      rw [hd] at hdd
      cases hdd
      rw [hg'] at hg
      rw [evN_congr (T := T) (op := o.op) (s := st i) (s' := ⟨(st i).n, pickS (st i).sl (o.looksAt l.toArray), (st i).hp⟩) hget] at h
      obtain ⟨v, w2, hrun, hb, hvb, hob⟩ := evN_ok (s := ⟨(st i).n, pickS (st i).sl (o.looksAt l.toArray), (st i).hp⟩) hT hSl hc h
      have hav := havh (ob.av d) rfl
      have hnone : (lk (st 0).hp d) = none := by
        cases hq : lk (st 0).hp d with
        | none => rfl
        | some q => rw [hway.hp 0 i (Nat.zero_le _) (Nat.le_of_lt hi) d q hq] at hfr; cases hfr
      have hρ : ρ d = none := by
        cases hq : ρ d with
        | none => rfl
        | some u =>
          rcases h2 d u hq with h5 | ⟨k, ok, hk', hDk, hok, hkd⟩
          · rw [hnone] at h5; cases h5
          · by_cases hki : k = i
            · subst hki; exact absurd hDk hni
            · exact absurd hd (hone i k o ok d hi hk' ho' hok hki hkd)
      have hO2 := hob (Bd (up ρ d v) B0) (up_new hρ hvb)
      have hlast : lk (st n).hp d = some ob := by
        refine hway.hp (i + 1) n (by omega) (Nat.le_refl _) d ob ?_
        rw [← hs2]
        show lk ((d, ob) :: (st i).hp) d = some ob
        rw [lk_cons, if_pos rfl]
      have hc2 : Core (up ρ d v) B0 w0 w2 (st n).hp := hc.new hρ hb hvb (fun _ _ h _ => h) hlast hO2
      refine ifW_pos (gst_ok hg hSl) (wp_value' (a := a0) hrun ⟨hdef v, ?_⟩)
      rw [hval]
      refine ⟨_, hc2, fun id u hu => ?_, fun t av ht hno => ?_, fun k hk' hDk => ?_⟩
      · unfold up at hu
        split at hu
        · rename_i e
          exact Or.inr ⟨i, o, hi, Or.inr rfl, ho', by rw [hd, e]⟩
        · rcases h2 id u hu with h5 | ⟨k, ok, hk', hDk, h5⟩
          · exact Or.inl h5
          · exact Or.inr ⟨k, ok, hk', Or.inl hDk, h5⟩
      · obtain ⟨u, h5, h6⟩ := h3 t av ht (fun k o hk ho hDk => hno k o hk ho (Or.inl hDk))
        exact ⟨u, h5, h6.new hρ hb hvb⟩
      · unfold setI
        by_cases e : k = i
        · rw [if_pos e, e, hav]
          exact AO.av_ok hO2 (by simp [up])
        · rw [if_neg e]
          rcases hDk with hDk | hDk
          · exact (h4 k hk' hDk).new hρ hb hvb
          · exact absurd hDk e
  · intro D vs w' hall hJ
    obtain ⟨ρ, hc, h2, h3, h4⟩ := hJ
    have hA := puts_inv (a0 := a0) (ops := l.toArray) rfl hr hn0 hnl vs n (Nat.le_refl _)
    rw [← hstn] at k
    refine k B0 w0 _ w' ⟨ρ, hc, ?_, hA.defs.trans hdf0, fun t av ht => ?_⟩
    · rw [hA.size, hn0, hway.nn n (Nat.le_refl _)]
    · by_cases hex : ∃ k ok, k < n ∧ l[k]? = some ok ∧ ok.dst = some t
      · obtain ⟨k, ok, hk, hok, hkd⟩ := hex
        rw [(hat n (Nat.le_refl _) t).1 k ok hk hok hkd] at ht
        cases ht
        exact ⟨vs k, hA.wr k ok t hk (by simpa using hok) hk hkd, h4 k hk (hall k hk)⟩
      · have hno : ∀ k ok, k < n → l[k]? = some ok → ok.dst ≠ some t := fun k ok hk hok hkd => hex ⟨k, ok, hk, hok, hkd⟩
        rw [(hat n (Nat.le_refl _) t).2 hno] at ht
        obtain ⟨v, h5, h6⟩ := h3 t av ht (fun k ok hk hok _ => hno k ok hk hok)
        refine ⟨v, ?_, h6⟩
        rw [hA.no t (fun k ok hk hok _ => hno k ok hk (by simpa using hok))]
        exact h5
end

end Go.Proofs.Ytkcagkcphobmfaa
