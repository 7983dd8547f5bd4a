/-
  THE ABSTRACT MACHINE, 6: stores into the frame's own objects, and appends to its own rows. No condition; nothing of the program.
-/
import Derived.Test.YtkcagkcphobmfaaMe
set_option linter.unusedVariables false
set_option linter.unusedSimpArgs false
namespace Go.Proofs.Ytkcagkcphobmfaa
open Go.RowKit

theorem layV_set {ls r : List Value} {v : Value} {off : Nat} (h : off + (r.length + 1) ≤ ls.length) : layV (ls.set off v) (off + 1) r = layV ls off (v :: r) := by
  unfold layV
  rw [List.set_eq_take_append_cons_drop, if_pos (by omega)]
  have h0 : (List.take off ls).length = off := by simp; omega
  have h1 : (List.take off ls ++ v :: List.drop (off + 1) ls).take (off + 1) = List.take off ls ++ [v] := by
    rw [List.take_append, h0, show off + 1 - off = 1 by omega, List.take_of_length_le (by omega)]
    rfl
  have h2 : (List.take off ls ++ v :: List.drop (off + 1) ls).drop (off + 1 + r.length) = ls.drop (off + (v :: r).length) := by
    rw [List.drop_append, h0, List.drop_eq_nil_of_le (by omega), List.nil_append, show off + 1 + r.length - off = r.length + 1 by omega, List.drop_succ_cons, List.drop_drop]
    congr 1
    simp; omega
  rw [h1, h2]
  simp

theorem layV_get {ls new : List Value} {off : Nat} (h : off + new.length ≤ ls.length) (k : Nat) : (layV ls off new)[k]? = if k < off then ls[k]? else if k < off + new.length then new[k - off]? else ls[k]? := by
  unfold layV
  have h0 : (List.take off ls).length = off := by simp; omega
  by_cases h1 : k < off
  · rw [if_pos h1, List.getElem?_append_left (by omega), List.getElem?_take, if_pos h1]
  · rw [if_neg h1, List.getElem?_append_right (by omega), h0]
    by_cases h2 : k < off + new.length
    · rw [if_pos h2, List.getElem?_append_left (by omega)]
    · rw [if_neg h2, List.getElem?_append_right (by omega), List.getElem?_drop]
      congr 1
      omega

/-- The block behind stores into a stretch of it; all else as it was. -/
theorem setCells_blk {g : Nat} {t : TypeId} : ∀ (cs : List Value) (off : Nat) (w : World) (vs : List Value), Blk w g t vs → off + cs.length ≤ vs.length →
    Blk (w.setCells g off cs) g t (layV vs off cs) ∧ (∀ b, b ≠ g → (w.setCells g off cs).heap[b]? = w.heap[b]?) ∧ (w.setCells g off cs).heap.size = w.heap.size ∧ (w.setCells g off cs).os = w.os ∧ (w.setCells g off cs).tape = w.tape ∧ (w.setCells g off cs).output = w.output
  | [], off, w, vs, h, hl => by
    have : layV vs off [] = vs := by simp [layV]
    rw [this]
    exact ⟨h, fun _ _ => rfl, rfl, rfl, rfl, rfl⟩
  | c :: cs, off, w, vs, h, hl => by
    simp only [List.length_cons] at hl
    have h1 := h.set off c
    obtain ⟨k1, k2, k3, k4, k5, k6⟩ := setCells_blk cs (off + 1) (w.setCell ⟨g, off, none⟩ c) (vs.set off c) h1 (by rw [List.length_set]; omega)
    rw [layV_set (by omega)] at k1
    simp only [World.setCells]
    exact ⟨k1, fun b hb => (k2 b hb).trans (Below.heap_setCell w ⟨g, off, none⟩ c b hb), by rw [k3]; simp [World.setCell], k4.trans rfl, k5.trans rfl, k6.trans rfl⟩

/-- A STORE. -/
def evS (T : TypeId → Option TI) (s : AS) : Op → Option (Nat × AO)
  | .store t x y => match T t with
    | none => none
    | some ti => match geto s x, geto s y with
      | some (.ptr id off), some (.d d) => match lk s.hp id with
        | some (.box T cs) => if d.cells.length = ti.n ∧ off + ti.n ≤ cs.length then some (id, .box T (layC cs off d.cells)) else none
        | _ => none
      | some (.eptr id sz i 0), some (.d d) => match lk s.hp id with
        | some (.row e sz' n el) => if sz = sz' ∧ d.cells.length = ti.n ∧ ti.n = sz then some (id, .row e sz n fun p q => if p = i then (d.cells[q]?).getD (.v undef) else el p q) else none
        | _ => none
      | _, _ => none
  | _ => none

theorem up_same {ρ : Rho} {id : Nat} {v : Value} (h : ρ id = some v) : up ρ id v = ρ := by
  funext k
  unfold up
  split
  · rename_i e; rw [e, h]
  · rfl

theorem evS_ok {P : Program} {T : TypeId → Option TI} (hT : TOk P T) {s : AS} {o : Oper} {id : Nat} {ob : AO} {ρ : Rho} {B0 : BS} {w0 w : World} {a : Act} (hsl : Slots ρ (Bd ρ B0) w s.sl a) (hc : Core ρ B0 w0 w s.hp) (h : evS T s o.op = some (id, ob)) :
    ∃ w', (execOp a.eval o).run P w = .ok .skip w' ∧ Core ρ B0 w0 w' ((id, ob) :: s.hp) ∧ Keep (Bd ρ B0) w w' := by
  unfold evS at h
  unfold execOp
  have hrun : ∀ {t : TypeId} {x y : Value} {w' : World}, (Instr.storeAt t x y).run P w = .ok () w' → (do Instr.storeAt t x y; pure .skip : Sem Next).run P w = .ok .skip w' := by
    intro t x y w' h
    rw [Sem.run_bind, h]; rfl
  split at h
  · rename_i t x y hop
    rw [hop]
    split at h
    · cases h
    rename_i ti hti
    replace hti := hT _ _ hti
    split at h
    · rename_i id' off d hx hy
      split at h
      · rename_i T cs hob
        split at h
        · rename_i hcond
          obtain ⟨hl, hfit⟩ := hcond
          cases h
          obtain ⟨g, hg, hxe⟩ := geto_ok hsl hx
          obtain ⟨vs, hv, hvr⟩ := DR.cells (geto_ok hsl hy)
          obtain ⟨ob, h1, h2⟩ := hc.obj id _ hg
          rw [hob] at h1
          cases h1
          obtain ⟨g', us, he, hge, hb, hul⟩ := h2
          cases he
          have hlen := hvr.len
          have hulen := hul.len
          have hst := ti_store (w := w) (b := g) (o := off) hti hv (by omega) (fun j hj => ⟨by rw [hb.cell _ (by omega)]; rfl, hb.free _⟩) hvr.one
          obtain ⟨k1, k2, k3, k4, k5, k6⟩ := setCells_blk vs off w us hb (by omega)
          have hbel : Below w0.heap.size w0 (w.setCells g off vs) := hc.bel.trans ⟨k4, k5, k6, by omega, fun b hb => k2 b (by omega)⟩
          have hW := Core.write (v' := .pointer (some ⟨g, 0, none⟩)) (ob' := .box T (layC cs off d.cells)) (hp' := (id, .box T (layC cs off d.cells)) :: s.hp) hc hg (w' := w.setCells g off vs) (fun b hb hne => k2 b (fun e => hne (by rw [e]; rfl))) (by omega) hbel
            (fun b hb => Or.inl hb) (fun k ob hk hne => by rw [lk_cons, if_neg (fun e => hne e.symm)]; exact hk) (by rw [lk_cons, if_pos rfl]) (by
              rw [up_same hg]
              have hK : Keep (Bd ρ B0) w (w.setCells g off vs) := ⟨by omega, fun b hb hB => k2 b (fun e => hB (Or.inr ⟨id, _, hg, by rw [e]; rfl⟩))⟩
              exact ⟨g, _, rfl, hge, k1, (layC_R off hul hvr).mv hK (fun _ _ hB => hB)⟩)
          rw [up_same hg] at hW
          exact ⟨_, hrun (by rw [hxe]; exact hst), hW.1, hW.2.1⟩
        · cases h
      · cases h
    · rename_i id' sz i d hx hy
      split at h
      · rename_i e sz' n el hob
        split at h
        · rename_i hcond
          obtain ⟨rfl, hl, hsz⟩ := hcond
          cases h
          obtain ⟨g, n', cap, hg, hi, hxe⟩ := geto_ok hsl hx
          obtain ⟨vs, hv, hvr⟩ := DR.cells (geto_ok hsl hy)
          obtain ⟨ob, h1, h2⟩ := hc.obj id _ hg
          rw [hob] at h1
          cases h1
          obtain ⟨xs, ⟨hxl, hown2⟩, hel⟩ := h2
          rcases hown2 with ⟨he, _⟩ | ⟨g2, cap2, cur, he, hge, hblk, hn, hm, hs, ht⟩
          · cases he
          · cases he
            have hb : Blk w g e cur.toList := by unfold Blk; rw [hblk]
            have hlen := hvr.len
            have hend : i * sz + sz ≤ n * sz := by
              have : (i + 1) * sz ≤ n * sz := Nat.mul_le_mul_right _ (by omega)
              rwa [Nat.add_mul, Nat.one_mul] at this
            have hcl : n * sz ≤ cur.toList.length := by
              rw [Array.length_toList, hs]; exact Nat.mul_le_mul_right _ hn
            rw [Nat.add_zero] at hxe
            have hst := ti_store (w := w) (b := g) (o := i * sz) hti hv (by omega) (fun j hj => ⟨by rw [hb.cell _ (by omega)]; rfl, hb.free _⟩) hvr.one
            obtain ⟨k1, k2, k3, k4, k5, k6⟩ := setCells_blk vs (i * sz) w _ hb (by omega)
            have hbel : Below w0.heap.size w0 (w.setCells g (i * sz) vs) := hc.bel.trans ⟨k4, k5, k6, by omega, fun b hb => k2 b (by omega)⟩
            have hW := Core.write (v' := .slice (some ⟨g, 0, none⟩) n cap) (ob' := .row e sz n fun p q => if p = i then (d.cells[q]?).getD (.v undef) else el p q) (hp' := (id, .row e sz n fun p q => if p = i then (d.cells[q]?).getD (.v undef) else el p q) :: s.hp) hc hg (w' := w.setCells g (i * sz) vs) (fun b hb hne => k2 b (fun e => hne (by rw [e]; rfl))) (by omega) hbel
              (fun b hb => Or.inl hb) (fun k ob hk hne => by rw [lk_cons, if_neg (fun e => hne e.symm)]; exact hk) (by rw [lk_cons, if_pos rfl]) (by
                rw [up_same hg]
                have hK : Keep (Bd ρ B0) w (w.setCells g (i * sz) vs) := ⟨by omega, fun b hb hB => k2 b (fun e => hB (Or.inr ⟨id, _, hg, by rw [e]; rfl⟩))⟩
                have hll : (layV cur.toList (i * sz) vs).length = cap * sz := by rw [layV_len (by omega), Array.length_toList, hs]
                refine ⟨(layV cur.toList (i * sz) vs).take (n * sz), ⟨by rw [List.length_take, hll, Nat.min_eq_left (by rw [← hs, ← Array.length_toList]; exact hcl)], Or.inr ⟨g, cap, (layV cur.toList (i * sz) vs).toArray, rfl, hge, k1, hn, hm, by simpa using hll, rfl⟩⟩, fun p q hp hq => ?_⟩
                have hidx : p * sz + q < n * sz := by
                  have : (p + 1) * sz ≤ n * sz := Nat.mul_le_mul_right _ (by omega)
                  rw [Nat.add_mul, Nat.one_mul] at this
                  omega
                rw [List.getElem?_take, if_pos hidx, layV_get (by omega)]
                by_cases hpi : p = i
                · subst hpi
                  rw [if_neg (by omega), if_pos (by omega), show p * sz + q - p * sz = q by omega]
                  obtain ⟨l, hl'⟩ : ∃ l, d.cells[q]? = some l := ⟨d.cells[q]'(by omega), by simp⟩
                  obtain ⟨c, hc', hr⟩ := hvr.get hl'
                  refine ⟨c, hc', ?_⟩
                  show LfR _ _ (if p = p then _ else _) c
                  rw [if_pos rfl, hl']
                  exact LfR.mv hK (fun _ _ hB => hB) _ hr
                · obtain ⟨x, hx1, hx2⟩ := hel p q hp hq
                  have hx1' : cur.toList[p * sz + q]? = some x := by
                    rw [← ht, List.getElem?_take, if_pos hidx] at hx1
                    exact hx1
                  have hout : p * sz + q < i * sz ∨ i * sz + sz ≤ p * sz + q := by
                    rcases Nat.lt_or_gt_of_ne hpi with hlt | hgt
                    · left
                      have : (p + 1) * sz ≤ i * sz := Nat.mul_le_mul_right _ hlt
                      rw [Nat.add_mul, Nat.one_mul] at this
                      omega
                    · right
                      have : (i + 1) * sz ≤ p * sz := Nat.mul_le_mul_right _ hgt
                      rw [Nat.add_mul, Nat.one_mul] at this
                      omega
                  refine ⟨x, ?_, ?_⟩
                  · rcases hout with ho | ho
                    · rw [if_pos ho]; exact hx1'
                    · rw [if_neg (by omega), if_neg (by omega)]; exact hx1'
                  · show LfR _ _ (if p = i then _ else _) x
                    rw [if_neg hpi]
                    exact LfR.mv hK (fun _ _ hB => hB) _ hx2)
            rw [up_same hg] at hW
            exact ⟨_, hrun (by rw [hxe]; exact hst), hW.1, hW.2.1⟩
        · cases h
      · cases h
    · cases h
  · cases h

/-- Append, to a row of the frame's own: which block holds the answer. -/
theorem run_append_am {P : Program} {w : World} (base : Nat) (t ty e : TypeId) (i : TypeInfo) (z : Value) (size bytes : Nat) (ht : P.underlying t = some (.slice e)) (hi : P.info? e = some i) (hz : i.zero = some z)
    (hsize : i.size = size) (hby : i.bytes = bytes) (hzs : z.cells.size = size) (hsz : 0 < size) (v : Value) (n : Nat) (xs : List Value) (hown : w.ownsRow base e size v n xs)
    (ao : Option Addr) (m c : Nat) (news : List Value) (hl : news.length = m * size) (hnil : ao = none → c = 0) (hmc : m ≤ c) (hsrc : CellsAt w ao news) (h1 : ∀ u ∈ news, u.oneCell' = true)
    (h63 : n + m ≤ maxLen) (hbytes : (n + m) * bytes ≤ 140737488355328) (hbase : base ≤ w.heap.size) :
    ∃ v' w', (Builtin.append_ #[t, t] ty #[v, .slice ao m c]).run P w = .ok v' w' ∧ w'.ownsRow base e size v' (n + m) (xs ++ news) ∧ w.grownBy w' v.ownBlock ∧ (∀ b, vblk v' = some b → vblk v = some b ∨ w.heap.size ≤ b) := by
  cases ao with
  | none =>
    have hc0 := hnil rfl
    subst hc0
    have hm : m = 0 := by omega
    subst hm
    have hn : news = [] := List.eq_nil_of_length_eq_zero (by simpa using hl)
    subst hn
    exact ⟨v, w, run_append_owned_none (P := P) (w := w) base t ty e i size ht hi v n xs hown, by simpa using hown, World.grownBy.refl _ _, fun b hb => Or.inl hb⟩
  | some ad =>
    have hnews : ∀ j u, news[j]? = some u → w.cell? (ad.add j) = some u := by
      intro j u hu
      rcases hsrc with hsrc | ⟨b, off, he, hsrc⟩
      · subst hsrc; simp at hu
      · cases he
        obtain ⟨hj, rfl⟩ := List.getElem?_eq_some_iff.1 hu
        rw [add_lit]; exact hsrc j hj
    obtain ⟨v', w', hr, h2, h3, h4⟩ := run_append_own (P := P) w base t ty e i z size bytes ht hi hz hsize hby hzs hsz v n xs hown ad m c news hl hnews h1 h63 hbytes hbase
    refine ⟨v', w', hr, h2, h3, ?_⟩
    subst hsize; subst hby
    have hsm : n + m ≤ 9223372036854775807 := by simp only [maxLen] at h63; omega
    rcases hown.2 with ⟨rfl, rfl⟩ | ⟨g, cap, cur, rfl, hbg, hg, hnc, hcm, hcs, htake⟩
    · by_cases hm : m = 0
      · have := h4.2 ⟨rfl, hm⟩
        subst this
        intro b hb; cases hb
      · rw [run_append_nil (P := P) w t ty e i z ht hi hz ad m c news hl hnews (by omega) (by omega) (by simp only [Nat.zero_add] at hbytes; omega)] at hr
        cases hr
        intro b hb; cases hb; exact Or.inr (Nat.le_refl _)
    · by_cases hroom : n + m ≤ cap
      · have hfit : n * i.size + news.length ≤ cur.size := by rw [hl, hcs, ← Nat.add_mul]; exact Nat.mul_le_mul_right _ hroom
        rw [run_append_room (P := P) w t ty e i ht hi g n cap cur hg ad m c news hl hnews h1 hroom hfit] at hr
        cases hr
        intro b hb; cases hb; exact Or.inl rfl
      · have holds : ∀ j u, xs[j]? = some u → w.cell? ((⟨g, 0, none⟩ : Addr).add j) = some u := hown.cells (g := g) rfl
        rw [run_append_grow (P := P) w t ty e i z ht hi hz ⟨g, 0, none⟩ n cap xs hown.1 holds ad m c news hl hnews (by omega) (by omega) (growslice_fits (by omega) hbytes)] at hr
        cases hr
        intro b hb; cases hb; exact Or.inr (Nat.le_refl _)

end Go.Proofs.Ytkcagkcphobmfaa
