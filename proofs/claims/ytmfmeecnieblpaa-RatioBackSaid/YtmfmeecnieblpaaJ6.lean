/-
  WHAT COMES IN (2): rationals, rows of rationals. No condition; nothing of the program.
-/
import Derived.Test.YtmfmeecnieblpaaJ5
import Derived.Test.YtmfmeecnieblpaaJ4
import Derived.Test.YtmfmeecnieblpaaJ3
set_option linter.unusedVariables false
set_option linter.unusedSimpArgs false
namespace Go.Proofs.Ytmfmeecnieblpaa
open Go.RowKit Go.ChangeShapes Go.WideShapes

section
variable {H : Type} {enc : TypeId × Value → H} {P : Program} {w : World}
theorem am_intc {t e : TypeId} {f0 f1 : Field} {fuel : Nat} {cs : List Value} {x : DataW H × List MemPlace} (hs : P.underlying t = some (.struct #[f0, f1])) (ho : f0.offset = 0 ∧ f1.offset = 1 ∧ P.cellsOf f0.type = 1 ∧ P.cellsOf f1.type = 1)
    (h0 : P.underlying f0.type = some .bool) (h1 : P.underlying f1.type = some (.slice e)) (he : P.underlying e = some (.int .u32)) (hc : P.cellsOf e = 1) (hl : cs.length = 2)
    (h : DataW.trod enc P w 0 (fun _ => true) true fuel t cs = some x) : ∃ s xs v1, cs = [.bool s, v1] ∧ LfR nb w (lr MX xs) v1 := by
  obtain ⟨y0, y1, q, _, _, t0, t1⟩ := trod_struct2 hs h
  obtain ⟨o0, o1, k0, k1⟩ := ho
  match cs, hl with
  | [c0, c1], _ =>
    rw [o0, k0] at t0
    rw [o1, k1] at t1
    obtain ⟨s, hb, _⟩ := DataW.trod_bool h0 t0
    obtain ⟨v1, xs, e1, hr⟩ := am_lim h1 he hc t1
    obtain rfl : c0 = .bool s := (List.cons.inj hb).1
    obtain rfl : c1 = v1 := (List.cons.inj e1).1
    exact ⟨s, xs, _, rfl, hr⟩
/-- A rational in any form. -/
def tan (K : Nat) (s : Bool) (xs : List Nat) (t : Bool) (ys : List Nat) : List Lf := [.v (.bool s), lr K xs] ++ [.v (.bool t), lr K ys]
theorem am_ratc {t u e : TypeId} {g0 g1 f0 f1 : Field} {fuel : Nat} {cs : List Value} {x : DataW H × List MemPlace} (hr : P.underlying t = some (.struct #[g0, g1])) (hg : g0.offset = 0 ∧ g1.offset = 2 ∧ P.cellsOf g0.type = 2 ∧ P.cellsOf g1.type = 2)
    (u0 : g0.type = u) (u1 : g1.type = u) (hs : P.underlying u = some (.struct #[f0, f1])) (ho : f0.offset = 0 ∧ f1.offset = 1 ∧ P.cellsOf f0.type = 1 ∧ P.cellsOf f1.type = 1)
    (h0 : P.underlying f0.type = some .bool) (h1 : P.underlying f1.type = some (.slice e)) (he : P.underlying e = some (.int .u32)) (hc : P.cellsOf e = 1) (hl : cs.length = 4)
    (h : DataW.trod enc P w 0 (fun _ => true) true fuel t cs = some x) : ∃ s xs s' ys, LsR nb w (tan MX s xs s' ys) cs := by
  obtain ⟨y0, y1, q, _, _, t0, t1⟩ := trod_struct2 hr h
  obtain ⟨o0, o1, k0, k1⟩ := hg
  match cs, hl with
  | [c0, c1, c2, c3], _ =>
    rw [o0, k0, u0] at t0
    rw [o1, k1, u1] at t1
    obtain ⟨s, xs, v1, e1, r1⟩ := am_intc hs ho h0 h1 he hc rfl t0
    obtain ⟨s', ys, v2, e2, r2⟩ := am_intc hs ho h0 h1 he hc rfl t1
    simp at e1 e2
    obtain ⟨rfl, rfl⟩ := e1
    obtain ⟨rfl, rfl⟩ := e2
    exact ⟨s, xs, s', ys, ⟨rfl, rfl⟩, r1, ⟨rfl, rfl⟩, r2, trivial⟩
theorem am_rat {r : Reach} {b0 : Nat} {t u e : TypeId} {g0 g1 f0 f1 : Field} {v : Value} {d : DataW H} {p : List MemPlace} (hr : P.underlying t = some (.struct #[g0, g1])) (hC : P.cellsOf t = 4) (hg : g0.offset = 0 ∧ g1.offset = 2 ∧ P.cellsOf g0.type = 2 ∧ P.cellsOf g1.type = 2)
    (u0 : g0.type = u) (u1 : g1.type = u) (hs : P.underlying u = some (.struct #[f0, f1])) (ho : f0.offset = 0 ∧ f1.offset = 1 ∧ P.cellsOf f0.type = 1 ∧ P.cellsOf f1.type = 1)
    (h0 : P.underlying f0.type = some .bool) (h1 : P.underlying f1.type = some (.slice e)) (he : P.underlying e = some (.int .u32)) (hc : P.cellsOf e = 1)
    (hv : Value.okWide P w r b0 t v) (h : DataW.Trod enc P w 0 (fun _ => true) true t v d p) : ∃ s xs s' ys, DR nb w (.agg (tan MX s xs s' ys)) v := by
  obtain ⟨cs, rfl, hsz⟩ := okWide_struct hr hv
  obtain ⟨fuel, hf⟩ := h
  have hcs : (Value.agg cs).cells.toList = cs.toList := by simp [Value.cells]
  rw [hcs] at hf
  obtain ⟨s, xs, s', ys, hx⟩ := am_ratc hr hg u0 u1 hs ho h0 h1 he hc (by simpa using hsz.trans hC) hf
  exact ⟨s, xs, s', ys, cs.toList, by simp, hx⟩
/-- A row of rationals in any form. -/
abbrev tael (K : Nat) (f : Nat → (Bool × List Nat) × (Bool × List Nat)) : Nat → Nat → Lf := fun i j => ((tan K (f i).1.1 (f i).1.2 (f i).2.1 (f i).2.2)[j]?).getD (.v undef)
def trow (K n : Nat) (f : Nat → (Bool × List Nat) × (Bool × List Nat)) : Lf := .row 4 n (tael K f)
theorem am_rats {tt t u e : TypeId} {g0 g1 f0 f1 : Field} {fuel : Nat} {cs : List Value} {x : DataW H × List MemPlace} (ht : P.underlying tt = some (.slice t)) (hr : P.underlying t = some (.struct #[g0, g1])) (hC : P.cellsOf t = 4) (hg : g0.offset = 0 ∧ g1.offset = 2 ∧ P.cellsOf g0.type = 2 ∧ P.cellsOf g1.type = 2)
    (u0 : g0.type = u) (u1 : g1.type = u) (hs : P.underlying u = some (.struct #[f0, f1])) (ho : f0.offset = 0 ∧ f1.offset = 1 ∧ P.cellsOf f0.type = 1 ∧ P.cellsOf f1.type = 1)
    (h0 : P.underlying f0.type = some .bool) (h1 : P.underlying f1.type = some (.slice e)) (he : P.underlying e = some (.int .u32)) (hc : P.cellsOf e = 1)
    (h : DataW.trod enc P w 0 (fun _ => true) true fuel tt cs = some x) : ∃ v n f, cs = [v] ∧ LfR nb w (trow MX n f) v := by
  rcases Go.Deep.open_slice ht h with ⟨hcs, _⟩ | ⟨a, len, cap, m, n, D, Pl, hcs, _, hl, hm, hmm, _, hx⟩
  · exact ⟨_, 0, fun _ => ((false, []), (false, [])), hcs, none, 0, rfl, Nat.le_refl _, fun _ => rfl, fun i hi => absurd hi (Nat.not_lt_zero _)⟩
  · have hm2 : m = cap := by simpa using hmm
    have key : ∀ j, j < len → ∃ F : (Bool × List Nat) × (Bool × List Nat), ∃ b off, a = ⟨b, off, none⟩ ∧ b < w.heap.size ∧ ∀ q, q < 4 → ∃ c, w.cell? ⟨b, off + j * 4 + q, none⟩ = some c ∧ LfR nb w (((tan MX F.1.1 F.1.2 F.2.1 F.2.2)[q]?).getD (.v undef)) c := by
      intro j hj
      have hfirst : ∃ v0, w.cell? (a.add 0) = some v0 := by
        obtain ⟨cs, h2, _⟩ := hx 0 (by omega)
        rw [hC] at h2
        obtain ⟨_, hlen, hcell⟩ := World.cells?_some h2
        have h3 := hcell 0 (by omega)
        rw [Nat.zero_mul, show (a.add 0).add 0 = a.add 0 by simp [Addr.add]] at h3
        exact ⟨_, h3.trans (List.getElem?_eq_getElem (by omega))⟩
      obtain ⟨v0, hv0⟩ := hfirst
      obtain ⟨b, off, rfl⟩ := plain_of_cell hv0
      obtain ⟨cs, h2, h3⟩ := hx j (by omega)
      rw [hC] at h2
      obtain ⟨_, hlen, hcell⟩ := World.cells?_some h2
      obtain ⟨s, xs, s', ys, hls⟩ := am_ratc hr hg u0 u1 hs ho h0 h1 he hc hlen h3
      have hlt : b < w.heap.size := by
        have h4 := hcell 0 (by omega)
        rw [add_plain, add_plain] at h4
        exact World.block_lt_of_cell? w _ (h4.trans (List.getElem?_eq_getElem (by omega)))
      refine ⟨((s, xs), (s', ys)), b, off, rfl, hlt, fun q hq => ?_⟩
      have h4 := hcell q (by omega)
      rw [add_plain, add_plain] at h4
      obtain ⟨c, hc1, hc2⟩ := hls.get (j := q) (l := ((tan MX s xs s' ys)[q]?).getD (.v undef)) (by
        have hlen4 : (tan MX s xs s' ys).length = 4 := rfl
        rw [List.getElem?_eq_getElem (by omega)]; rfl)
      exact ⟨c, h4.trans hc1, hc2⟩
    refine ⟨_, len, fun j => if h : j < len then (key j h).choose else ((false, []), (false, [])), hcs, some a, cap, rfl, hl, (fun e => nomatch e), fun j hj => ?_⟩
    obtain ⟨b, off, rfl, h2, h3⟩ := (key j hj).choose_spec
    refine ⟨b, off, rfl, fun h => h.elim, h2, fun q hq => ?_⟩
    obtain ⟨c, h4, h5⟩ := h3 q hq
    refine ⟨c, h4, ?_⟩
    simp only [tael, dif_pos hj]
    exact h5
theorem am_ratsT {r : Reach} {b0 : Nat} {d : DataW H} {p : List MemPlace} {v : Value} {tt t u e : TypeId} {g0 g1 f0 f1 : Field} (ht : P.underlying tt = some (.slice t)) (hr : P.underlying t = some (.struct #[g0, g1])) (hC : P.cellsOf t = 4) (hg : g0.offset = 0 ∧ g1.offset = 2 ∧ P.cellsOf g0.type = 2 ∧ P.cellsOf g1.type = 2)
    (u0 : g0.type = u) (u1 : g1.type = u) (hs : P.underlying u = some (.struct #[f0, f1])) (ho : f0.offset = 0 ∧ f1.offset = 1 ∧ P.cellsOf f0.type = 1 ∧ P.cellsOf f1.type = 1)
    (h0 : P.underlying f0.type = some .bool) (h1 : P.underlying f1.type = some (.slice e)) (he : P.underlying e = some (.int .u32)) (hc : P.cellsOf e = 1)
    (hv : Value.okWide P w r b0 tt v) (h : DataW.Trod enc P w 0 (fun _ => true) true tt v d p) : ∃ n f, LfR nb w (trow MX n f) v := by
  obtain ⟨a, len, cap, rfl⟩ := okWide_slice ht hv
  obtain ⟨fuel, hf⟩ := h
  rw [slice_cells] at hf
  obtain ⟨v', n, f, e1, h2⟩ := am_rats ht hr hC hg u0 u1 hs ho h0 h1 he hc hf
  obtain rfl := (List.cons.inj e1).1
  exact ⟨n, f, h2⟩
end
end Go.Proofs.Ytmfmeecnieblpaa

/-
  POLYNOMIALS, by the machine (1).
-/
set_option linter.unusedVariables false
set_option linter.unusedSimpArgs false
namespace Go.Proofs.Ytmfmeecnieblpaa
open Go.RowKit

set_option maxRecDepth 100000 in
set_option maxHeartbeats 4000000 in
theorem aPCut {K n : Nat} {c : Nat → Int} (hn : n ≤ 1000000) : ACall Try.prog 144 [.one (prow K n c)] (.d (.one (prow K (dg c n) c))) := by
  refine acallN hTT 21 [.tmp 2] Try.func144 rfl rfl rfl rfl rfl ?_
  refine cSeq ?_
  refine cReg ?_
  refine mV hTT _ rfl ?_
  refine mNil ?_
  refine tN ?_
  refine cSeq ?_
  refine cReg ?_
  refine mV hTT _ rfl ?_
  refine mV hTT (.d (.one (.v (.int .i64 (n : Int))))) rfl ?_
  refine mV hTT _ rfl ?_
  refine mNil ?_
  refine tN ?_
  refine cSeq ?_
  refine cBlock ?_
  refine cLoop (ι := Nat) (fun (k : Nat) => ⟨21, [(0, .d (.one (.row 2 n (zel K c)))), (3, .d (.one (.v (.int .i64 ((k : Nat) : Int)))))], []⟩) (fun (k : Nat) => k ≤ n ∧ dg c n = dg c k) (fun (k : Nat) => k) n (⟨Nat.le_refl _, rfl⟩) (wk (sl := [(0, .d (.one (.row 2 n (zel K c)))), (3, .d (.one (.v (.int .i64 ((n : Nat) : Int)))))]) (hp := []) rfl ⟨hs rfl, hs rfl, trivial⟩ trivial rfl) ?_
  rintro k hI
  obtain ⟨hkn, hk⟩ : k ≤ n ∧ dg c n = dg c k := hI
  show AW Try.prog _ _ ⟨21, [(0, .d (.one (.row 2 n (zel K c)))), (3, .d (.one (.v (.int .i64 ((k : Nat) : Int)))))], []⟩
  refine cSeq ?_
  refine cSeq ?_
  by_cases hk0 : k = 0
  · skip
    refine cReg ?_
    refine mV hTT _ rfl ?_
    refine mV hTT (.d (.one (.v (.bool false)))) (evb (decide_eq_false (by omega))) ?_
    refine mV hTT _ rfl ?_
    refine mG rfl rfl ?_
    refine mG rfl rfl ?_
    refine mG rfl rfl ?_
    refine mG rfl rfl ?_
    refine mG rfl rfl ?_
    refine mG rfl rfl ?_
    refine mV hTT _ rfl ?_
    refine mNil ?_
    refine tN ?_
    refine cF rfl ?_
    refine cExit ?_
    refine tE ?_
    refine tE ?_
    refine bE ?_
    refine tN ?_
    refine cSeq ?_
    have hd : k = dg c n := by rw [hk, hk0]; rfl
    refine cReg ?_
    refine mV hTT _ rfl ?_
    refine mV hTT _ rfl ?_
    refine mV hTT (.d (.one (.row 2 k (zel K c)))) (slR (z := (k : Int)) (n := n) rfl rfl rfl rfl rfl rfl (by omega) (by omega)) ?_
    refine mV hTT _ rfl ?_
    refine mNil ?_
    refine tN ?_
    refine cRet ?_
    exact rQ rfl (le_prow (Nat.le_refl _) hd (fun _ _ => rfl))
  · skip
    refine cReg ?_
    refine mV hTT _ rfl ?_
    refine mV hTT (.d (.one (.v (.bool true)))) (evb (decide_eq_true (by omega))) ?_
    refine mV hTT _ rfl ?_
    refine mV hTT _ rfl ?_
    refine mV hTT _ rfl ?_
    refine mV hTT (.d (.one (.v (.int .i64 ((k - 1 : Nat) : Int))))) (evi ((wr64 (by omega) (by omega)).trans (by omega))) ?_
    refine mV hTT (.d (.one (.at 2 ((zel K c) (k - 1))))) (ixR (el := (zel K c)) (z := ((k - 1 : Nat) : Int)) (n := n) rfl rfl rfl rfl rfl rfl (by omega) (by omega)) ?_
    refine mV hTT (.d (.agg (zn K (c (k - 1))))) rfl ?_
    refine mC0 (aZero (isn K (c (k - 1)))) rfl rfl rfl ?_
    refine mV hTT _ rfl ?_
    refine mNil ?_
    refine tN ?_
    refine cCond rfl (fun hc1 => ?_) (fun hc1 => ?_)
    · skip
      refine cSkip ?_
      refine tN ?_
      refine cBlock ?_
      have hc0 : c (k - 1) = 0 := of_decide_eq_true hc1
      refine cReg ?_
      refine mV hTT _ rfl ?_
      refine mV hTT (.d (.one (.v (.int .i64 ((k - 1 : Nat) : Int))))) (evi ((wr64 (by omega) (by omega)).trans (by omega))) ?_
      refine mV hTT _ rfl ?_
      refine mNil ?_
      refine bN ?_
      exact ⟨(k - 1), ⟨by omega, dg_down hk hk0 hc0⟩, by omega, wk (sl := [(0, .d (.one (.row 2 n (zel K c)))), (3, .d (.one (.v (.int .i64 (((k - 1) : Nat) : Int)))))]) (hp := []) rfl ⟨hs rfl, hs rfl, trivial⟩ trivial rfl⟩
    · skip
      refine cExit ?_
      refine tE ?_
      refine tE ?_
      refine bE ?_
      refine tN ?_
      refine cSeq ?_
      have hd : k = dg c n := by rw [hk]; exact (dg_stop (Or.inr fun e => of_decide_eq_false hc1 e)).symm
      refine cReg ?_
      refine mV hTT _ rfl ?_
      refine mV hTT _ rfl ?_
      refine mV hTT (.d (.one (.row 2 k (zel K c)))) (slR (z := (k : Int)) (n := n) rfl rfl rfl rfl rfl rfl (by omega) (by omega)) ?_
      refine mV hTT _ rfl ?_
      refine mNil ?_
      refine tN ?_
      refine cRet ?_
      exact rQ rfl (le_prow (Nat.le_refl _) hd (fun _ _ => rfl))

set_option maxRecDepth 100000 in
set_option maxHeartbeats 4000000 in
theorem aQCut {K n : Nat} {c : Nat → Rat} (hn : n ≤ 1000000) : ACall Try.prog 149 [.one (qrow K n c)] (.d (.one (qrow K (dg c n) c))) := by
  refine acallN hTT 22 [.tmp 2] Try.func149 rfl rfl rfl rfl rfl ?_
  refine cSeq ?_
  refine cReg ?_
  refine mV hTT _ rfl ?_
  refine mNil ?_
  refine tN ?_
  refine cSeq ?_
  refine cReg ?_
  refine mV hTT _ rfl ?_
  refine mV hTT (.d (.one (.v (.int .i64 (n : Int))))) rfl ?_
  refine mV hTT _ rfl ?_
  refine mNil ?_
  refine tN ?_
  refine cSeq ?_
  refine cBlock ?_
  refine cLoop (ι := Nat) (fun (k : Nat) => ⟨22, [(0, .d (.one (.row 4 n (qel K c)))), (3, .d (.one (.v (.int .i64 ((k : Nat) : Int)))))], []⟩) (fun (k : Nat) => k ≤ n ∧ dg c n = dg c k) (fun (k : Nat) => k) n (⟨Nat.le_refl _, rfl⟩) (wk (sl := [(0, .d (.one (.row 4 n (qel K c)))), (3, .d (.one (.v (.int .i64 ((n : Nat) : Int)))))]) (hp := []) rfl ⟨hs rfl, hs rfl, trivial⟩ trivial rfl) ?_
  rintro k hI
  obtain ⟨hkn, hk⟩ : k ≤ n ∧ dg c n = dg c k := hI
  show AW Try.prog _ _ ⟨22, [(0, .d (.one (.row 4 n (qel K c)))), (3, .d (.one (.v (.int .i64 ((k : Nat) : Int)))))], []⟩
  refine cSeq ?_
  refine cSeq ?_
  by_cases hk0 : k = 0
  · skip
    refine cReg ?_
    refine mV hTT _ rfl ?_
    refine mV hTT (.d (.one (.v (.bool false)))) (evb (decide_eq_false (by omega))) ?_
    refine mV hTT _ rfl ?_
    refine mG rfl rfl ?_
    refine mG rfl rfl ?_
    refine mG rfl rfl ?_
    refine mG rfl rfl ?_
    refine mG rfl rfl ?_
    refine mG rfl rfl ?_
    refine mG rfl rfl ?_
    refine mV hTT _ rfl ?_
    refine mNil ?_
    refine tN ?_
    refine cF rfl ?_
    refine cExit ?_
    refine tE ?_
    refine tE ?_
    refine bE ?_
    refine tN ?_
    refine cSeq ?_
    have hd : k = dg c n := by rw [hk, hk0]; rfl
    refine cReg ?_
    refine mV hTT _ rfl ?_
    refine mV hTT _ rfl ?_
    refine mV hTT (.d (.one (.row 4 k (qel K c)))) (slR (z := (k : Int)) (n := n) rfl rfl rfl rfl rfl rfl (by omega) (by omega)) ?_
    refine mV hTT _ rfl ?_
    refine mNil ?_
    refine tN ?_
    refine cRet ?_
    exact rQ rfl (le_qrow (Nat.le_refl _) hd (fun _ _ => rfl))
  · skip
    refine cReg ?_
    refine mV hTT _ rfl ?_
    refine mV hTT (.d (.one (.v (.bool true)))) (evb (decide_eq_true (by omega))) ?_
    refine mV hTT _ rfl ?_
    refine mV hTT _ rfl ?_
    refine mV hTT _ rfl ?_
    refine mV hTT (.d (.one (.v (.int .i64 ((k - 1 : Nat) : Int))))) (evi ((wr64 (by omega) (by omega)).trans (by omega))) ?_
    refine mV hTT (.d (.one (.at 4 ((qel K c) (k - 1))))) (ixR (el := (qel K c)) (z := ((k - 1 : Nat) : Int)) (n := n) rfl rfl rfl rfl rfl rfl (by omega) (by omega)) ?_
    refine mV hTT _ rfl ?_
    refine mV hTT (.d (.agg (rn K (Rat.num (c (k - 1)))))) rfl ?_
    refine mC0 (aRZero (isr K (Rat.num (c (k - 1))))) rfl rfl rfl ?_
    refine mV hTT _ rfl ?_
    refine mNil ?_
    refine tN ?_
    refine cCond rfl (fun hc1 => ?_) (fun hc1 => ?_)
    · skip
      refine cSkip ?_
      refine tN ?_
      refine cBlock ?_
      have hc0 : (c (k - 1)).num = 0 := of_decide_eq_true hc1
      refine cReg ?_
      refine mV hTT _ rfl ?_
      refine mV hTT (.d (.one (.v (.int .i64 ((k - 1 : Nat) : Int))))) (evi ((wr64 (by omega) (by omega)).trans (by omega))) ?_
      refine mV hTT _ rfl ?_
      refine mNil ?_
      refine bN ?_
      exact ⟨(k - 1), ⟨by omega, dg_down hk hk0 (Rat.num_eq_zero.1 hc0)⟩, by omega, wk (sl := [(0, .d (.one (.row 4 n (qel K c)))), (3, .d (.one (.v (.int .i64 (((k - 1) : Nat) : Int)))))]) (hp := []) rfl ⟨hs rfl, hs rfl, trivial⟩ trivial rfl⟩
    · skip
      refine cExit ?_
      refine tE ?_
      refine tE ?_
      refine bE ?_
      refine tN ?_
      refine cSeq ?_
      have hd : k = dg c n := by rw [hk]; exact (dg_stop (Or.inr fun e => of_decide_eq_false hc1 (by show (c (k - 1)).num = 0; rw [e]; rfl))).symm
      refine cReg ?_
      refine mV hTT _ rfl ?_
      refine mV hTT _ rfl ?_
      refine mV hTT (.d (.one (.row 4 k (qel K c)))) (slR (z := (k : Int)) (n := n) rfl rfl rfl rfl rfl rfl (by omega) (by omega)) ?_
      refine mV hTT _ rfl ?_
      refine mNil ?_
      refine tN ?_
      refine cRet ?_
      exact rQ rfl (le_qrow (Nat.le_refl _) hd (fun _ _ => rfl))

end Go.Proofs.Ytmfmeecnieblpaa

/-
  POLYNOMIALS, by the machine (2): the plain reckoning; what is handed in, cut.
-/
set_option linter.unusedVariables false
set_option linter.unusedSimpArgs false
namespace Go.Proofs.Ytmfmeecnieblpaa
open Go.RowKit

set_option maxRecDepth 100000 in
set_option maxHeartbeats 4000000 in
theorem aKInt {K k : Nat} {s : Bool} {xs : List Nat} (hk : k ≤ 1000000 := by decide) (hK : K ≤ 9223372036854775807 := by decide) : ACall Try.prog 13 [.agg [.v (.bool s), lr K xs], .one (.v (.int .i64 (k : Int)))] (.d (.agg [.v (.bool s), lr k (xs.take k)])) := by
  refine acallN hTT 12 [.cell 4 24] Try.func13 rfl rfl rfl rfl rfl ?_
  refine cSeq ?_
  refine cReg ?_
  refine mN hTT (.box 24 ([.v (.bool s), lr K xs])) rfl rfl rfl ?_
  refine mN hTT (.box 24 ([.v (.bool false), .v (.slice none 0 0)])) rfl rfl rfl ?_
  refine mNil ?_
  refine tN ?_
  refine cSeq ?_
  refine cDrawK hTT 7 (by kernel_rfl) (by kernel_rfl) (by kernel_rfl) ?_
  refine .cons (OpS.V (.ptr 2 0) rfl) ?_
  refine .cons (OpS.V (.d (.one (.v (.bool s)))) rfl) ?_
  refine .cons (OpS.V (.ptr 2 1) rfl) ?_
  refine .cons (OpS.V (.d (.one (lr K xs))) rfl) ?_
  refine .cons (OpS.V _ rfl) ?_
  refine .cons (OpS.C0 (aRow (K := K) (k := k) (xs := xs) (by omega) (by omega)) rfl rfl rfl) ?_
  refine .cons (OpS.V (.d (.agg ([.v (.bool s), lr k (xs.take k)]))) rfl) ?_
  refine .nil ?_
  refine mS hTT 4 (.box 24 ([.v (.bool s), lr k (xs.take k)])) rfl ?_
  refine mNil ?_
  refine tN ?_
  refine cRet ?_
  exact rQ rfl (AV.le.rfl)

set_option maxRecDepth 100000 in
set_option maxHeartbeats 4000000 in
theorem aKPoly {K n m k : Nat} {f : Nat → Bool × List Nat} (hm : m ≤ 1000 := by decide) (hk : k ≤ 1000 := by decide) (hK : K ≤ 9223372036854775807 := by decide) : ACall Try.prog 107 [.one (arow K n f), .one (.v (.int .i64 (m : Int))), .one (.v (.int .i64 (k : Int)))] (.d (.one (arow k (min n m) (cutf k f)))) := by
  refine acallN hTT 30 [.tmp 6] Try.func107 rfl rfl rfl rfl rfl ?_
  refine cSeq ?_
  refine cReg ?_
  refine mV hTT _ rfl ?_
  refine mNil ?_
  refine tN ?_
  refine cSeq ?_
  refine cReg ?_
  refine mV hTT _ rfl ?_
  refine mNil ?_
  refine tN ?_
  refine cSeq ?_
  refine cSeq ?_
  refine AW.wk (wkNil 7 7 24 2 (fun _ _ => .v undef) rfl rfl) ?_
  refine cReg ?_
  refine mV hTT _ rfl ?_
  refine mNil ?_
  refine tN ?_
  refine cBlock ?_
  refine cLoop (ι := Nat) (fun (i : Nat) => ⟨30, [(0, .d (.one (.row 2 n (ael K f)))), (1, .d (.one (.v (.int .i64 (m : Int))))), (2, .d (.one (.v (.int .i64 (k : Int))))), (8, .d (.one (.v (.int .i64 ((i : Nat) : Int))))), (7, .own 7)], [(7, .row 24 2 i (ael k (cutf k f)))]⟩) (fun (i : Nat) => i ≤ min n m) (fun (i : Nat) => min n m - i) 0 (Nat.zero_le _) (wk (sl := [(0, .d (.one (.row 2 n (ael K f)))), (1, .d (.one (.v (.int .i64 (m : Int))))), (2, .d (.one (.v (.int .i64 (k : Int))))), (8, .d (.one (.v (.int .i64 ((0 : Nat) : Int))))), (7, .own 7)]) (hp := [(7, .row 24 2 0 (ael k (cutf k f)))]) rfl ⟨hs rfl, hs rfl, hs rfl, hs rfl, hs rfl, trivial⟩ ⟨ho' rfl (leo_row0), trivial⟩ rfl) ?_
  rintro i hI
  have hi : i ≤ min n m := hI
  show AW Try.prog _ _ ⟨30, [(0, .d (.one (.row 2 n (ael K f)))), (1, .d (.one (.v (.int .i64 (m : Int))))), (2, .d (.one (.v (.int .i64 (k : Int))))), (8, .d (.one (.v (.int .i64 ((i : Nat) : Int))))), (7, .own 7)], [(7, .row 24 2 i (ael k (cutf k f)))]⟩
  refine cSeq ?_
  refine cSeq ?_
  by_cases hin : i < n
  · skip
    refine cReg ?_
    refine mV hTT _ rfl ?_
    refine mV hTT _ rfl ?_
    refine mV hTT (.d (.one (.v (.int .i64 (n : Int))))) rfl ?_
    refine mV hTT (.d (.one (.v (.bool true)))) (evb (decide_eq_true (by omega))) ?_
    refine mV hTT _ rfl ?_
    refine mV hTT _ rfl ?_
    refine mV hTT _ rfl ?_
    refine mV hTT (.d (.one (.v (.bool (decide (((i : Nat) : Int) < (m : Int))))))) rfl ?_
    refine mV hTT _ rfl ?_
    refine mNil ?_
    refine tN ?_
    refine cCond rfl (fun hc1 => ?_) (fun hc1 => ?_)
    · skip
      refine cSkip ?_
      refine tN ?_
      refine cSeq ?_
      refine cBlock ?_
      have him : i < m := by have h0 := of_decide_eq_true hc1; omega
      refine cReg ?_
      refine mV hTT _ rfl ?_
      refine mV hTT _ rfl ?_
      refine mV hTT _ rfl ?_
      refine mV hTT (.d (.one (.at 2 ((ael K f) i)))) (ixR (el := (ael K f)) (z := ((i : Nat) : Int)) (n := n) rfl rfl rfl rfl rfl rfl (by omega) (by omega)) ?_
      refine mV hTT (.d (.agg ([.v (.bool ((f i).1)), lr K ((f i).2)]))) rfl ?_
      refine mV hTT _ rfl ?_
      refine mC0 (aKInt (K := K) (k := k) (s := (f i).1) (xs := (f i).2) (by omega) (by omega)) rfl rfl rfl ?_
      refine mB hTT (.d (.one (.row 2 1 (fun i' j' => (([.v (.bool ((f i).1)), lr k (((f i).2).take k)])[i' * 2 + j']?).getD (.v undef))))) rfl ?_
      refine mA hTT (id := 7) (n := i) (m := 1) (el := (ael k (cutf k f))) (el2 := (fun i' j' => (([.v (.bool ((f i).1)), lr k (((f i).2).take k)])[i' * 2 + j']?).getD (.v undef))) rfl rfl rfl (by show (i + 1) * 32 ≤ 140737488355328; omega) (by omega) rfl rfl rfl rfl rfl rfl rfl rfl rfl rfl ?_
      refine mV hTT _ rfl ?_
      refine mNil ?_
      refine bN ?_
      refine tN ?_
      refine cReg ?_
      refine mV hTT _ rfl ?_
      refine mV hTT (.d (.one (.v (.int .i64 (IntKind.i64.wrap (((i : Nat) : Int) + 1)))))) rfl ?_
      refine mV hTT _ rfl ?_
      refine mNil ?_
      exact ⟨(i + 1), by omega, by omega, wk (sl := [(0, .d (.one (.row 2 n (ael K f)))), (1, .d (.one (.v (.int .i64 (m : Int))))), (2, .d (.one (.v (.int .i64 (k : Int))))), (8, .d (.one (.v (.int .i64 (((i + 1) : Nat) : Int))))), (7, .own 7)]) (hp := [(7, .row 24 2 (i + 1) (ael k (cutf k f)))]) rfl ⟨hs rfl, hs rfl, hs rfl, hs' rfl (le_int (inc64 (by omega))), hs rfl, trivial⟩ ⟨ho' rfl (app_a rfl (Nat.le_refl _) (Nat.le_refl _)), trivial⟩ rfl⟩
    · skip
      refine cExit ?_
      refine tE ?_
      refine tE ?_
      refine bE ?_
      refine tN ?_
      refine cSeq ?_
      have hie : min n m = i := by have h0 := of_decide_eq_false hc1; omega
      subst hie
      refine AW.wk (wkRow 7 rfl) ?_
      refine cReg ?_
      refine mV hTT _ rfl ?_
      refine mV hTT _ rfl ?_
      refine mNil ?_
      refine tN ?_
      refine cRet ?_
      exact rQ rfl (AV.le.rfl)
  · skip
    refine cReg ?_
    refine mV hTT _ rfl ?_
    refine mV hTT _ rfl ?_
    refine mV hTT (.d (.one (.v (.int .i64 (n : Int))))) rfl ?_
    refine mV hTT (.d (.one (.v (.bool false)))) (evb (decide_eq_false (by omega))) ?_
    refine mV hTT _ rfl ?_
    refine mG rfl rfl ?_
    refine mG rfl rfl ?_
    refine mG rfl rfl ?_
    refine mV hTT _ rfl ?_
    refine mNil ?_
    refine tN ?_
    refine cF rfl ?_
    refine cExit ?_
    refine tE ?_
    refine tE ?_
    refine bE ?_
    refine tN ?_
    refine cSeq ?_
    have hie : min n m = i := by skip; omega
    subst hie
    refine AW.wk (wkRow 7 rfl) ?_
    refine cReg ?_
    refine mV hTT _ rfl ?_
    refine mV hTT _ rfl ?_
    refine mNil ?_
    refine tN ?_
    refine cRet ?_
    exact rQ rfl (AV.le.rfl)

set_option maxRecDepth 100000 in
set_option maxHeartbeats 4000000 in
theorem aQOf {a : Lf} {n : Nat} {c : Nat → Int} (ha : IsI a n c) (hb : ∀ i, i < n → -9223372036854775808 ≤ c i ∧ c i ≤ 9223372036854775807) (hn : n ≤ 1000000 := by decide) : ACall Try.prog 118 [.one a] (.d (.one (qrow 64 (dg (rc c) (n)) (rc c)))) := by
  obtain ⟨ha, za⟩ := ha
  refine ACall.le (dl (DV.l ha) dl0) AV.le.rfl ?_
  refine acallN hTT 21 [.tmp 2] Try.func118 rfl rfl rfl rfl rfl ?_
  refine cSeq ?_
  refine cReg ?_
  refine mV hTT _ rfl ?_
  refine mNil ?_
  refine tN ?_
  refine cSeq ?_
  refine cReg ?_
  refine mV hTT _ rfl ?_
  refine mNil ?_
  refine tN ?_
  refine cSeq ?_
  refine cSeq ?_
  refine AW.wk (wkNil 3 3 40 4 (fun _ _ => .v undef) rfl rfl) ?_
  refine cReg ?_
  refine mV hTT _ rfl ?_
  refine mV hTT (.d (.one (.v (.int .i64 (n : Int))))) rfl ?_
  refine mV hTT _ rfl ?_
  refine mNil ?_
  refine tN ?_
  refine cBlock ?_
  refine cLoop (ι := Nat) (fun (i : Nat) => ⟨21, [(0, .d (.one (.row 1 n (fun i _ => .v (.int .i64 (c i)))))), (5, .d (.one (.row 1 n (fun i _ => .v (.int .i64 (c i)))))), (6, .d (.one (.v (.int .i64 (n : Int))))), (7, .d (.one (.v (.int .i64 ((i : Nat) : Int))))), (3, .own 3)], [(3, .row 40 4 i (qel 64 (rc c)))]⟩) (fun (i : Nat) => i ≤ n) (fun (i : Nat) => n - i) 0 (Nat.zero_le _) (wk (sl := [(0, .d (.one (.row 1 n (fun i _ => .v (.int .i64 (c i)))))), (5, .d (.one (.row 1 n (fun i _ => .v (.int .i64 (c i)))))), (6, .d (.one (.v (.int .i64 (n : Int))))), (7, .d (.one (.v (.int .i64 ((0 : Nat) : Int))))), (3, .own 3)]) (hp := [(3, .row 40 4 0 (qel 64 (rc c)))]) rfl ⟨hs rfl, hs rfl, hs rfl, hs rfl, hs rfl, trivial⟩ ⟨ho' rfl (leo_row0), trivial⟩ rfl) ?_
  rintro i hI
  have hi : i ≤ n := hI
  show AW Try.prog _ _ ⟨21, [(0, .d (.one (.row 1 n (fun i _ => .v (.int .i64 (c i)))))), (5, .d (.one (.row 1 n (fun i _ => .v (.int .i64 (c i)))))), (6, .d (.one (.v (.int .i64 (n : Int))))), (7, .d (.one (.v (.int .i64 ((i : Nat) : Int))))), (3, .own 3)], [(3, .row 40 4 i (qel 64 (rc c)))]⟩
  refine cSeq ?_
  refine cReg ?_
  refine mV hTT (.d (.one (.v (.bool (decide (((i : Nat) : Int) < (n : Int))))))) rfl ?_
  refine mNil ?_
  refine tN ?_
  refine cSeq ?_
  refine cCond rfl (fun hc1 => ?_) (fun hc1 => ?_)
  · skip
    refine cSkip ?_
    refine tN ?_
    refine cSeq ?_
    refine cBlock ?_
    refine cSeq ?_
    refine cReg ?_
    refine mV hTT _ rfl ?_
    refine mV hTT _ rfl ?_
    refine mNil ?_
    refine tN ?_
    have hin : i < n := by have h0 := of_decide_eq_true hc1; omega
    refine cReg ?_
    refine mV hTT _ rfl ?_
    refine mV hTT _ rfl ?_
    refine mV hTT _ rfl ?_
    refine mV hTT (.d (.one (.at 1 ((fun i _ => .v (.int .i64 (c i))) i)))) (ixR (el := (fun i _ => .v (.int .i64 (c i)))) (z := ((i : Nat) : Int)) (n := n) rfl rfl rfl rfl rfl rfl (by omega) (by omega)) ?_
    refine mV hTT (.d (.one (.v (.int .i64 (c i))))) rfl ?_
    refine mC0 (aROfI (n := c i) (hb i hin).1 (hb i hin).2) rfl rfl rfl ?_
    refine mB hTT (.d (.one (.row 4 1 (fun i' j' => ((qn 64 ((c i : Int) : Rat))[i' * 4 + j']?).getD (.v undef))))) rfl ?_
    refine mA hTT (id := 3) (n := i) (m := 1) (el := (qel 64 (rc c))) (el2 := (fun i' j' => ((qn 64 ((c i : Int) : Rat))[i' * 4 + j']?).getD (.v undef))) rfl rfl rfl (by show (i + 1) * 64 ≤ 140737488355328; omega) (by omega) rfl rfl rfl rfl rfl rfl rfl rfl rfl rfl ?_
    refine mV hTT _ rfl ?_
    refine mNil ?_
    refine bN ?_
    refine tN ?_
    refine cReg ?_
    refine mV hTT (.d (.one (.v (.int .i64 (IntKind.i64.wrap (((i : Nat) : Int) + 1)))))) rfl ?_
    refine mV hTT _ rfl ?_
    refine mNil ?_
    exact ⟨(i + 1), by omega, by omega, wk (sl := [(0, .d (.one (.row 1 n (fun i _ => .v (.int .i64 (c i)))))), (5, .d (.one (.row 1 n (fun i _ => .v (.int .i64 (c i)))))), (6, .d (.one (.v (.int .i64 (n : Int))))), (7, .d (.one (.v (.int .i64 (((i + 1) : Nat) : Int))))), (3, .own 3)]) (hp := [(3, .row 40 4 (i + 1) (qel 64 (rc c)))]) rfl ⟨hs rfl, hs rfl, hs rfl, hs' rfl (le_int (inc64 (by omega))), hs rfl, trivial⟩ ⟨ho' rfl (app_q rfl (Nat.le_refl _) (Nat.le_refl _) rfl (fun _ _ => rfl)), trivial⟩ rfl⟩
  · skip
    refine cExit ?_
    refine tE ?_
    refine tE ?_
    refine bE ?_
    refine tN ?_
    refine cSeq ?_
    have hie : n = i := by have h0 := of_decide_eq_false hc1; omega
    subst hie
    refine AW.wk (wkRow 3 rfl) ?_
    refine cReg ?_
    refine mV hTT _ rfl ?_
    refine mC0 (aQCut (K := 64) (n := n) (c := (rc c)) (by omega)) rfl rfl rfl ?_
    refine mV hTT _ rfl ?_
    refine mNil ?_
    refine tN ?_
    refine cRet ?_
    exact rQ rfl (AV.le.rfl)

set_option maxRecDepth 100000 in
set_option maxHeartbeats 4000000 in
theorem aQSame {a b : Lf} {K L n : Nat} {c : Nat → Int} (ha : ∀ B w v, LfR B w a v → LfR B w (qrow K n (rc c)) v) (hb : ∀ B w v, LfR B w b v → LfR B w (prow L n c) v) (hn : n ≤ 1000000 := by decide) (hK : K ≤ 10000000 := by decide) (hL : L ≤ 1000000000 := by decide) : ACall Try.prog 117 [.one a, .one b] (.d (.one (.v (.bool true)))) := by
  refine ACall.le (dl (DV.l ha) (dl (DV.l hb) dl0)) AV.le.rfl ?_
  refine acallN hTT 38 [.tmp 4] Try.func117 rfl rfl rfl rfl rfl ?_
  refine cSeq ?_
  refine cReg ?_
  refine mV hTT _ rfl ?_
  refine mNil ?_
  refine tN ?_
  refine cSeq ?_
  refine cSeq ?_
  refine cReg ?_
  refine mV hTT _ rfl ?_
  refine mV hTT (.d (.one (.v (.int .i64 (n : Int))))) rfl ?_
  refine mV hTT _ rfl ?_
  refine mV hTT (.d (.one (.v (.int .i64 (n : Int))))) rfl ?_
  refine mV hTT (.d (.one (.v (.bool false)))) (evb (bne_self_eq_false _)) ?_
  refine mNil ?_
  refine tN ?_
  refine cF rfl ?_
  refine cSkip ?_
  refine tN ?_
  refine cSeq ?_
  refine cSeq ?_
  refine cReg ?_
  refine mV hTT _ rfl ?_
  refine mV hTT (.d (.one (.v (.int .i64 (n : Int))))) rfl ?_
  refine mV hTT _ rfl ?_
  refine mNil ?_
  refine tN ?_
  refine cBlock ?_
  refine cLoop (ι := Nat) (fun (i : Nat) => ⟨38, [(0, .d (.one (.row 4 n (qel K (rc c))))), (1, .d (.one (.row 2 n (zel L c)))), (12, .d (.one (.v (.int .i64 (n : Int))))), (13, .d (.one (.v (.int .i64 ((i : Nat) : Int)))))], []⟩) (fun (i : Nat) => i ≤ n) (fun (i : Nat) => n - i) 0 (Nat.zero_le _) (wk (sl := [(0, .d (.one (.row 4 n (qel K (rc c))))), (1, .d (.one (.row 2 n (zel L c)))), (12, .d (.one (.v (.int .i64 (n : Int))))), (13, .d (.one (.v (.int .i64 ((0 : Nat) : Int)))))]) (hp := []) rfl ⟨hs rfl, hs rfl, hs rfl, hs rfl, trivial⟩ trivial rfl) ?_
  rintro i hI
  have hi : i ≤ n := hI
  show AW Try.prog _ _ ⟨38, [(0, .d (.one (.row 4 n (qel K (rc c))))), (1, .d (.one (.row 2 n (zel L c)))), (12, .d (.one (.v (.int .i64 (n : Int))))), (13, .d (.one (.v (.int .i64 ((i : Nat) : Int)))))], []⟩
  refine cSeq ?_
  refine cReg ?_
  refine mV hTT (.d (.one (.v (.bool (decide (((i : Nat) : Int) < (n : Int))))))) rfl ?_
  refine mNil ?_
  refine tN ?_
  refine cSeq ?_
  refine cCond rfl (fun hc1 => ?_) (fun hc1 => ?_)
  · skip
    refine cSkip ?_
    refine tN ?_
    refine cSeq ?_
    refine cBlock ?_
    refine cSeq ?_
    refine cReg ?_
    refine mV hTT _ rfl ?_
    refine mV hTT _ rfl ?_
    refine mNil ?_
    refine tN ?_
    refine cSeq ?_
    have hin : i < n := by have h0 := of_decide_eq_true hc1; omega
    refine cDrawK hTT 21 (by kernel_rfl) (by kernel_rfl) (by kernel_rfl) ?_
    refine .cons (OpS.V _ rfl) ?_
    refine .cons (OpS.V _ rfl) ?_
    refine .cons (OpS.V (.d (.one (.at 4 ((qel K (rc c)) i)))) (ixR (el := (qel K (rc c))) (z := ((i : Nat) : Int)) (n := n) rfl rfl rfl rfl rfl rfl (by omega) (by omega))) ?_
    refine .cons (OpS.V _ rfl) ?_
    refine .cons (OpS.V (.d (.agg (rn K (Rat.num ((rc c) i))))) rfl) ?_
    refine .cons (OpS.V _ rfl) ?_
    refine .cons (OpS.V _ rfl) ?_
    refine .cons (OpS.V (.d (.one (.at 2 ((zel L c) i)))) (ixR (el := (zel L c)) (z := ((i : Nat) : Int)) (n := n) rfl rfl rfl rfl rfl rfl (by omega) (by omega))) ?_
    refine .cons (OpS.V (.d (.agg (zn L (c i)))) rfl) ?_
    refine .cons (OpS.C0 (aRSame (IsR.eq (isr K (Rat.num ((rc c) i))) (Rat.num_intCast _)) (isn L (c i)) (by omega) (by omega)) rfl rfl rfl) ?_
    refine .cons (OpS.V (.d (.one (.v (.bool false)))) rfl) ?_
    refine .cons (OpS.V _ rfl) ?_
    refine .cons (OpS.V _ rfl) ?_
    refine .cons (OpS.V _ rfl) ?_
    refine .cons (OpS.V (.d (.one (.at 4 ((qel K (rc c)) i)))) (ixR (el := (qel K (rc c))) (z := ((i : Nat) : Int)) (n := n) rfl rfl rfl rfl rfl rfl (by omega) (by omega))) ?_
    refine .cons (OpS.V _ rfl) ?_
    refine .cons (OpS.V (.d (.agg (rn K (Rat.den ((rc c) i) : Int)))) rfl) ?_
    refine .cons (OpS.C0 (aROf (n := 1) (by decide) (by decide)) rfl rfl rfl) ?_
    refine .cons (OpS.C0 (aRCmp (isr K (Rat.den ((rc c) i) : Int)) (isr 64 1) (by omega) (by decide)) rfl rfl rfl) ?_
    refine .cons (OpS.V (.d (.one (.v (.bool false)))) (evb (by show (cmpZ ((rc c i).den : Int) 1 != 0) = false; unfold rc; rw [Rat.den_intCast]; rfl))) ?_
    refine .cons (OpS.V _ rfl) ?_
    refine .nil ?_
    refine mNil ?_
    refine tN ?_
    refine cF rfl ?_
    refine cSkip ?_
    refine bN ?_
    refine tN ?_
    refine cReg ?_
    refine mV hTT (.d (.one (.v (.int .i64 (IntKind.i64.wrap (((i : Nat) : Int) + 1)))))) rfl ?_
    refine mV hTT _ rfl ?_
    refine mNil ?_
    exact ⟨(i + 1), by omega, by omega, wk (sl := [(0, .d (.one (.row 4 n (qel K (rc c))))), (1, .d (.one (.row 2 n (zel L c)))), (12, .d (.one (.v (.int .i64 (n : Int))))), (13, .d (.one (.v (.int .i64 (((i + 1) : Nat) : Int)))))]) (hp := []) rfl ⟨hs rfl, hs rfl, hs rfl, hs' rfl (le_int (inc64 (by omega))), trivial⟩ trivial rfl⟩
  · skip
    refine cExit ?_
    refine tE ?_
    refine tE ?_
    refine bE ?_
    refine tN ?_
    refine cSeq ?_
    refine cReg ?_
    refine mV hTT _ rfl ?_
    refine mNil ?_
    refine tN ?_
    refine cRet ?_
    exact rQ rfl (AV.le.rfl)

end Go.Proofs.Ytmfmeecnieblpaa

/-
  RATIONALS, cut, by the machine.
-/
set_option linter.unusedVariables false
set_option linter.unusedSimpArgs false
namespace Go.Proofs.Ytmfmeecnieblpaa
open Go.RowKit

set_option maxRecDepth 100000 in
set_option maxHeartbeats 4000000 in
theorem aKRat {K k : Nat} {s t : Bool} {xs ys : List Nat} (hk : k ≤ 1000000 := by decide) (hK : K ≤ 9223372036854775807 := by decide) : ACall Try.prog 83 [.agg ([.v (.bool s), lr K xs] ++ [.v (.bool t), lr K ys]), .one (.v (.int .i64 (k : Int)))] (.d (.agg ([.v (.bool s), lr k (xs.take k)] ++ [.v (.bool t), lr k (ys.take k)]))) := by
  refine acallN hTT 14 [.cell 4 27] Try.func83 rfl rfl rfl rfl rfl ?_
  refine cSeq ?_
  refine cReg ?_
  refine mN hTT (.box 27 ([.v (.bool s), lr K xs] ++ [.v (.bool t), lr K ys])) rfl rfl rfl ?_
  refine mN hTT (.box 27 ([.v (.bool false), .v (.slice none 0 0), .v (.bool false), .v (.slice none 0 0)])) rfl rfl rfl ?_
  refine mNil ?_
  refine tN ?_
  refine cSeq ?_
  refine cDrawK hTT 9 (by kernel_rfl) (by kernel_rfl) (by kernel_rfl) ?_
  refine .cons (OpS.V (.ptr 2 0) rfl) ?_
  refine .cons (OpS.V (.d (.agg ([.v (.bool s), lr K xs]))) rfl) ?_
  refine .cons (OpS.V _ rfl) ?_
  refine .cons (OpS.C0 (aKInt (K := K) (k := k) (s := s) (xs := xs) (by omega) (by omega)) rfl rfl rfl) ?_
  refine .cons (OpS.V (.ptr 2 2) rfl) ?_
  refine .cons (OpS.V (.d (.agg ([.v (.bool t), lr K ys]))) rfl) ?_
  refine .cons (OpS.V _ rfl) ?_
  refine .cons (OpS.C0 (aKInt (K := K) (k := k) (s := t) (xs := ys) (by omega) (by omega)) rfl rfl rfl) ?_
  refine .cons (OpS.V (.d (.agg ([.v (.bool s), lr k (xs.take k)] ++ [.v (.bool t), lr k (ys.take k)]))) rfl) ?_
  refine .nil ?_
  refine mS hTT 4 (.box 27 ([.v (.bool s), lr k (xs.take k)] ++ [.v (.bool t), lr k (ys.take k)])) rfl ?_
  refine mNil ?_
  refine tN ?_
  refine cRet ?_
  exact rQ rfl (AV.le.rfl)

end Go.Proofs.Ytmfmeecnieblpaa

/-
  RATIONALS of the program, by the machine (3).
-/
set_option linter.unusedVariables false
set_option linter.unusedSimpArgs false
namespace Go.Proofs.Ytmfmeecnieblpaa
open Go.RowKit

set_option maxRecDepth 100000 in
set_option maxHeartbeats 4000000 in
theorem aTMake0 {a b : List Lf} {K L : Nat} {x y : Int} (ha : IsZ a K x) (hb : IsZ b L y) (hy : y = 0) (hL : L ≤ 100000000 := by decide) : ACall Try.prog 14 [.agg a, .agg b] (.tup [.agg [.v (.bool false), .v (.slice none 0 0), .v (.bool false), .v (.slice none 0 0)], .one (.v (.int .i64 2))]) := by
  obtain ⟨sa, xa, ha, ea⟩ := ha
  obtain ⟨sb, xb, hb, eb⟩ := hb
  refine ACall.le (dl (DV.z ha) (dl (DV.z hb) dl0)) AV.le.rfl ?_
  refine acallN hTT 15 [.cell 4 27, .tmp 5] Try.func14 rfl rfl rfl rfl rfl ?_
  refine cSeq ?_
  refine cReg ?_
  refine mN hTT (.box 24 ([.v (.bool sa), lr K xa])) rfl rfl rfl ?_
  refine mN hTT (.box 24 ([.v (.bool sb), lr L xb])) rfl rfl rfl ?_
  refine mN hTT (.box 27 ([.v (.bool false), .v (.slice none 0 0), .v (.bool false), .v (.slice none 0 0)])) rfl rfl rfl ?_
  refine mV hTT _ rfl ?_
  refine mNil ?_
  refine tN ?_
  refine cSeq ?_
  refine cSeq ?_
  refine cReg ?_
  refine mV hTT (.d (.agg ([.v (.bool sb), lr L xb]))) rfl ?_
  refine mC0 (aNorm ⟨sb, xb, fun _ _ _ h => h, eb⟩ (by omega)) rfl rfl rfl ?_
  refine mS hTT 3 (.box 24 (zn L y)) rfl ?_
  refine mNil ?_
  refine tN ?_
  refine cSeq ?_
  refine cReg ?_
  refine mV hTT (.d (.agg (zn L y))) rfl ?_
  refine mC0 (aZero (isn L y)) rfl rfl rfl ?_
  refine mNil ?_
  refine tN ?_
  refine cView 9 (.d (.one (.v (.bool true)))) rfl (le_bool (decide_eq_true hy)) ?_
  refine cT rfl ?_
  refine cSeq ?_
  refine cReg ?_
  refine mV hTT (.d (.agg ([.v (.bool false), .v (.slice none 0 0), .v (.bool false), .v (.slice none 0 0)]))) rfl ?_
  refine mS hTT 4 (.box 27 ([.v (.bool false), .v (.slice none 0 0), .v (.bool false), .v (.slice none 0 0)])) rfl ?_
  refine mV hTT _ rfl ?_
  refine mNil ?_
  refine tN ?_
  refine cRet ?_
  refine tR ?_
  exact rQ rfl (AV.le.rfl)

set_option maxRecDepth 100000 in
set_option maxHeartbeats 4000000 in
theorem aTOf {n d : Int} (h1 : -9223372036854775808 ≤ n) (h2 : n ≤ 9223372036854775807) (k1 : -9223372036854775808 ≤ d) (k2 : d ≤ 9223372036854775807) (hd : d ≠ 0) : ACall Try.prog 20 [.one (.v (.int .i64 n)), .one (.v (.int .i64 d))] (.tup [.agg (tn 3 (Rat.divInt n d)), .one (.v (.int .i64 0))]) := by
  refine acallN hTT 13 [.cell 4 27, .tmp 5] Try.func20 rfl rfl rfl rfl rfl ?_
  refine cSeq ?_
  refine cReg ?_
  refine mN hTT (.box 27 ([.v (.bool false), .v (.slice none 0 0), .v (.bool false), .v (.slice none 0 0)])) rfl rfl rfl ?_
  refine mV hTT _ rfl ?_
  refine mNil ?_
  refine tN ?_
  refine cSeq ?_
  refine cReg ?_
  refine mV hTT _ rfl ?_
  refine mC0 (aOf (n := n) h1 h2) rfl rfl rfl ?_
  refine mV hTT _ rfl ?_
  refine mC0 (aOf (n := d) k1 k2) rfl rfl rfl ?_
  refine mC0 (aTMake (isz 2 n) (isz 2 d) hd (M := 3) (by decide) (by decide)) rfl rfl rfl ?_
  refine mV hTT _ rfl ?_
  refine mV hTT _ rfl ?_
  refine mS hTT 4 (.box 27 (tn 3 (Rat.divInt n d))) rfl ?_
  refine mV hTT _ rfl ?_
  refine mNil ?_
  refine tN ?_
  refine cRet ?_
  exact rQ rfl (AV.le.rfl)

set_option maxRecDepth 100000 in
set_option maxHeartbeats 4000000 in
theorem aTOf0 {n d : Int} (h1 : -9223372036854775808 ≤ n) (h2 : n ≤ 9223372036854775807) (k1 : -9223372036854775808 ≤ d) (k2 : d ≤ 9223372036854775807) (hd : d = 0) : ACall Try.prog 20 [.one (.v (.int .i64 n)), .one (.v (.int .i64 d))] (.tup [.agg [.v (.bool false), .v (.slice none 0 0), .v (.bool false), .v (.slice none 0 0)], .one (.v (.int .i64 2))]) := by
  refine acallN hTT 13 [.cell 4 27, .tmp 5] Try.func20 rfl rfl rfl rfl rfl ?_
  refine cSeq ?_
  refine cReg ?_
  refine mN hTT (.box 27 ([.v (.bool false), .v (.slice none 0 0), .v (.bool false), .v (.slice none 0 0)])) rfl rfl rfl ?_
  refine mV hTT _ rfl ?_
  refine mNil ?_
  refine tN ?_
  refine cSeq ?_
  refine cReg ?_
  refine mV hTT _ rfl ?_
  refine mC0 (aOf (n := n) h1 h2) rfl rfl rfl ?_
  refine mV hTT _ rfl ?_
  refine mC0 (aOf (n := d) k1 k2) rfl rfl rfl ?_
  refine mC0 (aTMake0 (isz 2 n) (isz 2 d) hd (by decide)) rfl rfl rfl ?_
  refine mV hTT _ rfl ?_
  refine mV hTT _ rfl ?_
  refine mS hTT 4 (.box 27 ([.v (.bool false), .v (.slice none 0 0), .v (.bool false), .v (.slice none 0 0)])) rfl ?_
  refine mV hTT _ rfl ?_
  refine mNil ?_
  refine tN ?_
  refine cRet ?_
  exact rQ rfl (AV.le.rfl)

set_option maxRecDepth 100000 in
set_option maxHeartbeats 4000000 in
theorem aTQuo {a b : List Lf} {K L M : Nat} {n d m e : Int} (ha : IsT a K n d) (hb : IsT b L m e) (hq : (mkR m e) ≠ 0) (hM : (max K 2 + 1) + (max L 2 + 1) + 2 ≤ M := by decide) (hMM : M ≤ 100000000 := by decide) : ACall Try.prog 45 [.agg a, .agg b] (.tup [.agg (tn M ((mkR n d) / (mkR m e))), .one (.v (.int .i64 0))]) := by
  obtain ⟨s0, xs0, t0, ys0, ha, e0, k0⟩ := ha
  obtain ⟨s1, xs1, t1, ys1, hb, e1, k1⟩ := hb
  refine ACall.le (dl (DV.g ha) (dl (DV.g hb) dl0)) AV.le.rfl ?_
  refine acallN hTT 25 [.cell 4 27, .tmp 5] Try.func45 rfl rfl rfl rfl rfl ?_
  refine cSeq ?_
  refine cReg ?_
  refine mN hTT (.box 27 ([.v (.bool s0), lr K xs0] ++ [.v (.bool t0), lr K ys0])) rfl rfl rfl ?_
  refine mN hTT (.box 27 ([.v (.bool s1), lr L xs1] ++ [.v (.bool t1), lr L ys1])) rfl rfl rfl ?_
  refine mN hTT (.box 27 ([.v (.bool false), .v (.slice none 0 0), .v (.bool false), .v (.slice none 0 0)])) rfl rfl rfl ?_
  refine mV hTT _ rfl ?_
  refine mNil ?_
  refine tN ?_
  refine cSeq ?_
  refine cDrawK hTT 4 (by kernel_rfl) (by kernel_rfl) (by kernel_rfl) ?_
  refine .cons (OpS.V (.d (.agg ([.v (.bool s0), lr K xs0] ++ [.v (.bool t0), lr K ys0]))) rfl) ?_
  refine .cons (OpS.C0 (aTNorm (⟨s0, xs0, t0, ys0, fun _ _ _ h => h, e0, k0⟩ : IsT ([.v (.bool s0), lr K xs0] ++ [.v (.bool t0), lr K ys0]) K n d) (M := (max K 2 + 1)) (by omega) (by omega)) rfl rfl rfl) ?_
  refine .cons (OpS.V (.d (.agg ([.v (.bool s1), lr L xs1] ++ [.v (.bool t1), lr L ys1]))) rfl) ?_
  refine .cons (OpS.C0 (aTNorm (⟨s1, xs1, t1, ys1, fun _ _ _ h => h, e1, k1⟩ : IsT ([.v (.bool s1), lr L xs1] ++ [.v (.bool t1), lr L ys1]) L m e) (M := (max L 2 + 1)) (by omega) (by omega)) rfl rfl rfl) ?_
  refine .nil ?_
  refine mS hTT 2 (.box 27 (tn (max K 2 + 1) (mkR n d))) rfl ?_
  refine mS hTT 3 (.box 27 (tn (max L 2 + 1) (mkR m e))) rfl ?_
  refine mNil ?_
  refine tN ?_
  refine cSeq ?_
  refine cSeq ?_
  refine cReg ?_
  refine mV hTT (.ptr 3 0) rfl ?_
  refine mV hTT (.d (.agg (zn (max L 2 + 1) (Rat.num (mkR m e))))) rfl ?_
  refine mC0 (aZero (isn (max L 2 + 1) (Rat.num (mkR m e)))) rfl rfl rfl ?_
  refine mNil ?_
  refine tN ?_
  refine cView 12 (.d (.one (.v (.bool false)))) rfl (le_bool (decide_eq_false (num_ne hq))) ?_
  refine cF rfl ?_
  refine cSkip ?_
  refine tN ?_
  refine cSeq ?_
  refine cDrawK hTT 11 (by kernel_rfl) (by kernel_rfl) (by kernel_rfl) ?_
  refine .cons (OpS.V (.ptr 2 0) rfl) ?_
  refine .cons (OpS.V (.d (.agg (zn (max K 2 + 1) (Rat.num (mkR n d))))) rfl) ?_
  refine .cons (OpS.V (.ptr 3 2) rfl) ?_
  refine .cons (OpS.V (.d (.agg (zn (max L 2 + 1) (Rat.den (mkR m e) : Int)))) rfl) ?_
  refine .cons (OpS.C0 (aMul (isz (max K 2 + 1) (Rat.num (mkR n d))) (isz (max L 2 + 1) (Rat.den (mkR m e) : Int)) (M := ((max K 2 + 1) + (max L 2 + 1))) (by omega) (by omega) (by omega)) rfl rfl rfl) ?_
  refine .cons (OpS.V (.ptr 2 2) rfl) ?_
  refine .cons (OpS.V (.d (.agg (zn (max K 2 + 1) (Rat.den (mkR n d) : Int)))) rfl) ?_
  refine .cons (OpS.V (.ptr 3 0) rfl) ?_
  refine .cons (OpS.V (.d (.agg (zn (max L 2 + 1) (Rat.num (mkR m e))))) rfl) ?_
  refine .cons (OpS.C0 (aMul (isz (max K 2 + 1) (Rat.den (mkR n d) : Int)) (isz (max L 2 + 1) (Rat.num (mkR m e))) (M := ((max K 2 + 1) + (max L 2 + 1))) (by omega) (by omega) (by omega)) rfl rfl rfl) ?_
  refine .cons (OpS.C0 (aTLow (isz ((max K 2 + 1) + (max L 2 + 1)) ((Rat.num (mkR n d)) * (Rat.den (mkR m e) : Int))) (isz ((max K 2 + 1) + (max L 2 + 1)) ((Rat.den (mkR n d) : Int) * (Rat.num (mkR m e)))) (Int.mul_ne_zero (den_ne (mkR n d)) (num_ne hq)) (M := (max (max ((max K 2 + 1) + (max L 2 + 1)) ((max K 2 + 1) + (max L 2 + 1))) 1 + 1)) (by omega) (by omega)) rfl rfl rfl) ?_
  refine .nil ?_
  refine mS hTT 4 (.box 27 (tn (max (max ((max K 2 + 1) + (max L 2 + 1)) ((max K 2 + 1) + (max L 2 + 1))) 1 + 1) (Rat.divInt ((Rat.num (mkR n d)) * (Rat.den (mkR m e) : Int)) ((Rat.den (mkR n d) : Int) * (Rat.num (mkR m e)))))) rfl ?_
  refine mV hTT _ rfl ?_
  refine mNil ?_
  refine tN ?_
  refine cRet ?_
  exact rQ rfl (le_tup (dl (dle (le_tn (by omega) (quo_div hq))) (dl DV.same dl0)))

set_option maxRecDepth 100000 in
set_option maxHeartbeats 4000000 in
theorem aTQuo0 {a b : List Lf} {K L : Nat} {n d m e : Int} (ha : IsT a K n d) (hb : IsT b L m e) (hq : (mkR m e) = 0) (hK : K ≤ 10000000 := by decide) (hL : L ≤ 10000000 := by decide) : ACall Try.prog 45 [.agg a, .agg b] (.tup [.agg [.v (.bool false), .v (.slice none 0 0), .v (.bool false), .v (.slice none 0 0)], .one (.v (.int .i64 2))]) := by
  obtain ⟨s0, xs0, t0, ys0, ha, e0, k0⟩ := ha
  obtain ⟨s1, xs1, t1, ys1, hb, e1, k1⟩ := hb
  refine ACall.le (dl (DV.g ha) (dl (DV.g hb) dl0)) AV.le.rfl ?_
  refine acallN hTT 25 [.cell 4 27, .tmp 5] Try.func45 rfl rfl rfl rfl rfl ?_
  refine cSeq ?_
  refine cReg ?_
  refine mN hTT (.box 27 ([.v (.bool s0), lr K xs0] ++ [.v (.bool t0), lr K ys0])) rfl rfl rfl ?_
  refine mN hTT (.box 27 ([.v (.bool s1), lr L xs1] ++ [.v (.bool t1), lr L ys1])) rfl rfl rfl ?_
  refine mN hTT (.box 27 ([.v (.bool false), .v (.slice none 0 0), .v (.bool false), .v (.slice none 0 0)])) rfl rfl rfl ?_
  refine mV hTT _ rfl ?_
  refine mNil ?_
  refine tN ?_
  refine cSeq ?_
  refine cDrawK hTT 4 (by kernel_rfl) (by kernel_rfl) (by kernel_rfl) ?_
  refine .cons (OpS.V (.d (.agg ([.v (.bool s0), lr K xs0] ++ [.v (.bool t0), lr K ys0]))) rfl) ?_
  refine .cons (OpS.C0 (aTNorm (⟨s0, xs0, t0, ys0, fun _ _ _ h => h, e0, k0⟩ : IsT ([.v (.bool s0), lr K xs0] ++ [.v (.bool t0), lr K ys0]) K n d) (M := (max K 2 + 1)) (by omega) (by omega)) rfl rfl rfl) ?_
  refine .cons (OpS.V (.d (.agg ([.v (.bool s1), lr L xs1] ++ [.v (.bool t1), lr L ys1]))) rfl) ?_
  refine .cons (OpS.C0 (aTNorm (⟨s1, xs1, t1, ys1, fun _ _ _ h => h, e1, k1⟩ : IsT ([.v (.bool s1), lr L xs1] ++ [.v (.bool t1), lr L ys1]) L m e) (M := (max L 2 + 1)) (by omega) (by omega)) rfl rfl rfl) ?_
  refine .nil ?_
  refine mS hTT 2 (.box 27 (tn (max K 2 + 1) (mkR n d))) rfl ?_
  refine mS hTT 3 (.box 27 (tn (max L 2 + 1) (mkR m e))) rfl ?_
  refine mNil ?_
  refine tN ?_
  refine cSeq ?_
  refine cSeq ?_
  refine cReg ?_
  refine mV hTT (.ptr 3 0) rfl ?_
  refine mV hTT (.d (.agg (zn (max L 2 + 1) (Rat.num (mkR m e))))) rfl ?_
  refine mC0 (aZero (isn (max L 2 + 1) (Rat.num (mkR m e)))) rfl rfl rfl ?_
  refine mNil ?_
  refine tN ?_
  refine cView 12 (.d (.one (.v (.bool true)))) rfl (le_bool (decide_eq_true (by rw [hq]; rfl))) ?_
  refine cT rfl ?_
  refine cSeq ?_
  refine cReg ?_
  refine mV hTT (.d (.agg ([.v (.bool false), .v (.slice none 0 0), .v (.bool false), .v (.slice none 0 0)]))) rfl ?_
  refine mS hTT 4 (.box 27 ([.v (.bool false), .v (.slice none 0 0), .v (.bool false), .v (.slice none 0 0)])) rfl ?_
  refine mV hTT _ rfl ?_
  refine mNil ?_
  refine tN ?_
  refine cRet ?_
  refine tR ?_
  exact rQ rfl (AV.le.rfl)

set_option maxRecDepth 100000 in
set_option maxHeartbeats 4000000 in
theorem aTNeg {a : List Lf} {K M : Nat} {n d : Int} (ha : IsT a K n d) (hM : max K 2 + 1 ≤ M := by decide) (hMM : M ≤ 100000000 := by decide) : ACall Try.prog 47 [.agg a] (.d (.agg (tn M (-(mkR n d))))) := by
  obtain ⟨s0, xs0, t0, ys0, ha, e0, k0⟩ := ha
  refine ACall.le (dl (DV.g ha) dl0) AV.le.rfl ?_
  refine acallN hTT 10 [.cell 2 27] Try.func47 rfl rfl rfl rfl rfl ?_
  refine cSeq ?_
  refine cReg ?_
  refine mN hTT (.box 27 ([.v (.bool s0), lr K xs0] ++ [.v (.bool t0), lr K ys0])) rfl rfl rfl ?_
  refine mN hTT (.box 27 ([.v (.bool false), .v (.slice none 0 0), .v (.bool false), .v (.slice none 0 0)])) rfl rfl rfl ?_
  refine mNil ?_
  refine tN ?_
  refine cSeq ?_
  refine cReg ?_
  refine mV hTT (.d (.agg ([.v (.bool s0), lr K xs0] ++ [.v (.bool t0), lr K ys0]))) rfl ?_
  refine mC0 (aTNorm (⟨s0, xs0, t0, ys0, fun _ _ _ h => h, e0, k0⟩ : IsT ([.v (.bool s0), lr K xs0] ++ [.v (.bool t0), lr K ys0]) K n d) (M := (max K 2 + 1)) (by omega) (by omega)) rfl rfl rfl ?_
  refine mS hTT 1 (.box 27 (tn (max K 2 + 1) (mkR n d))) rfl ?_
  refine mNil ?_
  refine tN ?_
  refine cSeq ?_
  refine cReg ?_
  refine mV hTT (.ptr 1 0) rfl ?_
  refine mV hTT (.d (.agg (zn (max K 2 + 1) (Rat.num (mkR n d))))) rfl ?_
  refine mC0 (aNeg (isz (max K 2 + 1) (Rat.num (mkR n d))) (by omega)) rfl rfl rfl ?_
  refine mV hTT (.ptr 1 0) rfl ?_
  refine mS hTT 1 (.box 27 (zn (max K 2 + 1) (-(Rat.num (mkR n d))) ++ zn (max K 2 + 1) (Rat.den (mkR n d) : Int))) rfl ?_
  refine mNil ?_
  refine tN ?_
  refine cSeq ?_
  refine cReg ?_
  refine mV hTT (.d (.agg (zn (max K 2 + 1) (-(Rat.num (mkR n d))) ++ zn (max K 2 + 1) (Rat.den (mkR n d) : Int)))) rfl ?_
  refine mS hTT 2 (.box 27 (zn (max K 2 + 1) (-(Rat.num (mkR n d))) ++ zn (max K 2 + 1) (Rat.den (mkR n d) : Int))) rfl ?_
  refine mNil ?_
  refine tN ?_
  refine cRet ?_
  exact rQ rfl (le_tn2 (by omega) (by omega) (by rw [Rat.neg_num]) (by rw [Rat.neg_den]))

set_option maxRecDepth 100000 in
set_option maxHeartbeats 4000000 in
theorem aTMid {a b : List Lf} {K L M : Nat} {n d m e : Int} (ha : IsT a K n d) (hb : IsT b L m e) (hM : (max K 2 + 1) + (max L 2 + 1) + 4 ≤ M := by decide) (hMM : M ≤ 100000000 := by decide) : ACall Try.prog 46 [.agg a, .agg b] (.d (.agg (tn M (((mkR n d) + (mkR m e)) / 2)))) := by
  obtain ⟨s0, xs0, t0, ys0, ha, e0, k0⟩ := ha
  obtain ⟨s1, xs1, t1, ys1, hb, e1, k1⟩ := hb
  refine ACall.le (dl (DV.g ha) (dl (DV.g hb) dl0)) AV.le.rfl ?_
  refine acallN hTT 22 [.cell 4 27] Try.func46 rfl rfl rfl rfl rfl ?_
  refine cSeq ?_
  refine cReg ?_
  refine mN hTT (.box 27 ([.v (.bool s0), lr K xs0] ++ [.v (.bool t0), lr K ys0])) rfl rfl rfl ?_
  refine mN hTT (.box 27 ([.v (.bool s1), lr L xs1] ++ [.v (.bool t1), lr L ys1])) rfl rfl rfl ?_
  refine mN hTT (.box 27 ([.v (.bool false), .v (.slice none 0 0), .v (.bool false), .v (.slice none 0 0)])) rfl rfl rfl ?_
  refine mNil ?_
  refine tN ?_
  refine cSeq ?_
  refine cReg ?_
  refine mV hTT (.d (.agg ([.v (.bool s0), lr K xs0] ++ [.v (.bool t0), lr K ys0]))) rfl ?_
  refine mV hTT (.d (.agg ([.v (.bool s1), lr L xs1] ++ [.v (.bool t1), lr L ys1]))) rfl ?_
  refine mC0 (aTCross (⟨s0, xs0, t0, ys0, fun _ _ _ h => h, e0, k0⟩ : IsT ([.v (.bool s0), lr K xs0] ++ [.v (.bool t0), lr K ys0]) K n d) (⟨s1, xs1, t1, ys1, fun _ _ _ h => h, e1, k1⟩ : IsT ([.v (.bool s1), lr L xs1] ++ [.v (.bool t1), lr L ys1]) L m e) (M := ((max K 2 + 1) + (max L 2 + 1))) (by omega) (by omega)) rfl rfl rfl ?_
  refine mV hTT _ rfl ?_
  refine mV hTT _ rfl ?_
  refine mV hTT _ rfl ?_
  refine mV hTT _ rfl ?_
  refine mN hTT (.box 24 ([.v (.bool false), .v (.slice none 0 0)])) rfl rfl rfl ?_
  refine mN hTT (.box 24 ([.v (.bool false), .v (.slice none 0 0)])) rfl rfl rfl ?_
  refine mN hTT (.box 24 ([.v (.bool false), .v (.slice none 0 0)])) rfl rfl rfl ?_
  refine mS hTT 5 (.box 24 (zn ((max K 2 + 1) + (max L 2 + 1)) (Rat.num (mkR n d) * (Rat.den (mkR m e) : Int)))) rfl ?_
  refine mS hTT 6 (.box 24 (zn ((max K 2 + 1) + (max L 2 + 1)) (Rat.num (mkR m e) * (Rat.den (mkR n d) : Int)))) rfl ?_
  refine mS hTT 7 (.box 24 (zn ((max K 2 + 1) + (max L 2 + 1)) ((Rat.den (mkR n d) : Int) * (Rat.den (mkR m e) : Int)))) rfl ?_
  refine mNil ?_
  refine tN ?_
  refine cSeq ?_
  refine cDrawK hTT 7 (by kernel_rfl) (by kernel_rfl) (by kernel_rfl) ?_
  refine .cons (OpS.V (.d (.agg (zn ((max K 2 + 1) + (max L 2 + 1)) (Rat.num (mkR n d) * (Rat.den (mkR m e) : Int))))) rfl) ?_
  refine .cons (OpS.V (.d (.agg (zn ((max K 2 + 1) + (max L 2 + 1)) (Rat.num (mkR m e) * (Rat.den (mkR n d) : Int))))) rfl) ?_
  refine .cons (OpS.C0 (aAdd (isz ((max K 2 + 1) + (max L 2 + 1)) (Rat.num (mkR n d) * (Rat.den (mkR m e) : Int))) (isz ((max K 2 + 1) + (max L 2 + 1)) (Rat.num (mkR m e) * (Rat.den (mkR n d) : Int))) (M := (max ((max K 2 + 1) + (max L 2 + 1)) ((max K 2 + 1) + (max L 2 + 1)) + 1)) (by omega) (by omega) (by omega)) rfl rfl rfl) ?_
  refine .cons (OpS.V (.d (.agg (zn ((max K 2 + 1) + (max L 2 + 1)) ((Rat.den (mkR n d) : Int) * (Rat.den (mkR m e) : Int))))) rfl) ?_
  refine .cons (OpS.C0 (aOf (n := 2) (by decide) (by decide)) rfl rfl rfl) ?_
  refine .cons (OpS.C0 (aMul (isz ((max K 2 + 1) + (max L 2 + 1)) ((Rat.den (mkR n d) : Int) * (Rat.den (mkR m e) : Int))) (isz 2 2) (M := (((max K 2 + 1) + (max L 2 + 1)) + 2)) (by omega) (by omega) (by decide)) rfl rfl rfl) ?_
  refine .cons (OpS.C0 (aTLow (isz (max ((max K 2 + 1) + (max L 2 + 1)) ((max K 2 + 1) + (max L 2 + 1)) + 1) ((Rat.num (mkR n d) * (Rat.den (mkR m e) : Int)) + (Rat.num (mkR m e) * (Rat.den (mkR n d) : Int)))) (isz (((max K 2 + 1) + (max L 2 + 1)) + 2) (((Rat.den (mkR n d) : Int) * (Rat.den (mkR m e) : Int)) * 2)) (Int.mul_ne_zero (mkR_nz (mkR n d) (mkR m e)) (by decide)) (M := (max (max (max ((max K 2 + 1) + (max L 2 + 1)) ((max K 2 + 1) + (max L 2 + 1)) + 1) (((max K 2 + 1) + (max L 2 + 1)) + 2)) 1 + 1)) (by omega) (by omega)) rfl rfl rfl) ?_
  refine .nil ?_
  refine mS hTT 4 (.box 27 (tn (max (max (max ((max K 2 + 1) + (max L 2 + 1)) ((max K 2 + 1) + (max L 2 + 1)) + 1) (((max K 2 + 1) + (max L 2 + 1)) + 2)) 1 + 1) (Rat.divInt ((Rat.num (mkR n d) * (Rat.den (mkR m e) : Int)) + (Rat.num (mkR m e) * (Rat.den (mkR n d) : Int))) (((Rat.den (mkR n d) : Int) * (Rat.den (mkR m e) : Int)) * 2)))) rfl ?_
  refine mNil ?_
  refine tN ?_
  refine cRet ?_
  exact rQ rfl (le_tn (by omega) (mid_div (mkR n d) (mkR m e)))

set_option maxRecDepth 100000 in
set_option maxHeartbeats 4000000 in
theorem aTFloor {a : List Lf} {K M : Nat} {n d : Int} (ha : IsT a K n d) (hM : max K 2 + 2 ≤ M := by decide) (hMM : M ≤ 100000000 := by decide) : ACall Try.prog 39 [.agg a] (.d (.agg (zn M (Rat.num (mkR n d) / (Rat.den (mkR n d) : Int))))) := by
  obtain ⟨s0, xs0, t0, ys0, ha, e0, k0⟩ := ha
  refine ACall.le (dl (DV.g ha) dl0) AV.le.rfl ?_
  refine acallN hTT 18 [.cell 2 24] Try.func39 rfl rfl rfl rfl rfl ?_
  refine cSeq ?_
  refine cReg ?_
  refine mN hTT (.box 27 ([.v (.bool s0), lr K xs0] ++ [.v (.bool t0), lr K ys0])) rfl rfl rfl ?_
  refine mN hTT (.box 24 ([.v (.bool false), .v (.slice none 0 0)])) rfl rfl rfl ?_
  refine mNil ?_
  refine tN ?_
  refine cSeq ?_
  refine cReg ?_
  refine mV hTT (.d (.agg ([.v (.bool s0), lr K xs0] ++ [.v (.bool t0), lr K ys0]))) rfl ?_
  refine mC0 (aTNorm (⟨s0, xs0, t0, ys0, fun _ _ _ h => h, e0, k0⟩ : IsT ([.v (.bool s0), lr K xs0] ++ [.v (.bool t0), lr K ys0]) K n d) (M := (max K 2 + 1)) (by omega) (by omega)) rfl rfl rfl ?_
  refine mS hTT 1 (.box 27 (tn (max K 2 + 1) (mkR n d))) rfl ?_
  refine mNil ?_
  refine tN ?_
  refine cSeq ?_
  refine cReg ?_
  refine mV hTT (.ptr 1 0) rfl ?_
  refine mV hTT (.d (.agg (zn (max K 2 + 1) (Rat.num (mkR n d))))) rfl ?_
  refine mV hTT (.ptr 1 2) rfl ?_
  refine mV hTT (.d (.agg (zn (max K 2 + 1) (Rat.den (mkR n d) : Int)))) rfl ?_
  refine mC0 (aDivMod (isz (max K 2 + 1) (Rat.num (mkR n d))) (isz (max K 2 + 1) (Rat.den (mkR n d) : Int)) (den_ne (mkR n d)) (M := (max (max K 2 + 1) 1 + 1)) (by omega) (by omega) (by omega)) rfl rfl rfl ?_
  refine mV hTT _ rfl ?_
  refine mV hTT _ rfl ?_
  refine mV hTT _ rfl ?_
  refine mV hTT _ rfl ?_
  refine mN hTT (.box 24 ([.v (.bool false), .v (.slice none 0 0)])) rfl rfl rfl ?_
  refine mN hTT (.box 24 ([.v (.bool false), .v (.slice none 0 0)])) rfl rfl rfl ?_
  refine mS hTT 3 (.box 24 (zn (max (max K 2 + 1) 1 + 1) ((Rat.num (mkR n d)) / (Rat.den (mkR n d) : Int)))) rfl ?_
  refine mS hTT 4 (.box 24 (zn (max K 2 + 1) ((Rat.num (mkR n d)) % (Rat.den (mkR n d) : Int)))) rfl ?_
  refine mV hTT _ rfl ?_
  refine mNil ?_
  refine tN ?_
  refine cSeq ?_
  refine cReg ?_
  refine mV hTT (.d (.agg (zn (max (max K 2 + 1) 1 + 1) ((Rat.num (mkR n d)) / (Rat.den (mkR n d) : Int))))) rfl ?_
  refine mS hTT 2 (.box 24 (zn (max (max K 2 + 1) 1 + 1) ((Rat.num (mkR n d)) / (Rat.den (mkR n d) : Int)))) rfl ?_
  refine mNil ?_
  refine tN ?_
  refine cRet ?_
  exact rQ rfl (le_zn (by omega) rfl)

def fq (f : Nat → (Bool × List Nat) × (Bool × List Nat)) (i : Nat) : Rat := mkR (zv (f i).1.1 (val (f i).1.2)) (zv (f i).2.1 (val (f i).2.2))
set_option maxRecDepth 100000 in
set_option maxHeartbeats 4000000 in
theorem aTSum {K M n : Nat} {f : Nat → (Bool × List Nat) × (Bool × List Nat)} (hM : 2 + n * (max K 2 + 4) ≤ M) (hn : n ≤ 100000 := by decide) (hMM : M ≤ 10000000 := by decide) : ACall Try.prog 30 [.one (trow K n f)] (.d (.agg (tn M (tsum (fq f) n)))) := by
  refine acallN hTT 19 [.cell 2 27] Try.func30 rfl rfl rfl rfl rfl ?_
  refine cSeq ?_
  refine cReg ?_
  refine mN hTT (.box 27 ([.v (.bool false), .v (.slice none 0 0), .v (.bool false), .v (.slice none 0 0)])) rfl rfl rfl ?_
  refine mNil ?_
  refine tN ?_
  refine cSeq ?_
  refine cReg ?_
  refine mV hTT (.d (.agg ([.v (.bool false), .v (.slice none 0 0)]))) rfl ?_
  refine mC0 (aTInt isz_nil (M := 2) (by decide) (by decide)) rfl rfl rfl ?_
  refine mN hTT (.box 27 ([.v (.bool false), .v (.slice none 0 0), .v (.bool false), .v (.slice none 0 0)])) rfl rfl rfl ?_
  refine mS hTT 3 (.box 27 (tn 2 ((0 : Int) : Rat))) rfl ?_
  refine mNil ?_
  refine tN ?_
  refine cSeq ?_
  refine cSeq ?_
  refine cReg ?_
  refine mV hTT _ rfl ?_
  refine mV hTT (.d (.one (.v (.int .i64 (n : Int))))) rfl ?_
  refine mV hTT _ rfl ?_
  refine mNil ?_
  refine tN ?_
  refine cBlock ?_
  refine cLoop (ι := Nat) (fun (i : Nat) => ⟨19, [(2, .ptr 2 0), (3, .ptr 3 0), (8, .d (.one (.row 4 n (tael K f)))), (9, .d (.one (.v (.int .i64 (n : Int))))), (10, .d (.one (.v (.int .i64 ((i : Nat) : Int)))))], [(2, .box 27 ([.v (.bool false), .v (.slice none 0 0), .v (.bool false), .v (.slice none 0 0)])), (3, .box 27 (tn (2 + i * (max K 2 + 4)) (tsum (fq f) i)))]⟩) (fun (i : Nat) => i ≤ n) (fun (i : Nat) => n - i) 0 (Nat.zero_le _) (wk (sl := [(2, .ptr 2 0), (3, .ptr 3 0), (8, .d (.one (.row 4 n (tael K f)))), (9, .d (.one (.v (.int .i64 (n : Int))))), (10, .d (.one (.v (.int .i64 ((0 : Nat) : Int)))))]) (hp := [(2, .box 27 ([.v (.bool false), .v (.slice none 0 0), .v (.bool false), .v (.slice none 0 0)])), (3, .box 27 (tn (2 + 0 * (max K 2 + 4)) (tsum (fq f) 0)))]) rfl ⟨hs rfl, hs rfl, hs rfl, hs rfl, hs rfl, trivial⟩ ⟨ho rfl, ho' rfl (leo_tn (by omega) rfl), trivial⟩ rfl) ?_
  rintro i hI
  have hi : i ≤ n := hI
  show AW Try.prog _ _ ⟨19, [(2, .ptr 2 0), (3, .ptr 3 0), (8, .d (.one (.row 4 n (tael K f)))), (9, .d (.one (.v (.int .i64 (n : Int))))), (10, .d (.one (.v (.int .i64 ((i : Nat) : Int)))))], [(2, .box 27 ([.v (.bool false), .v (.slice none 0 0), .v (.bool false), .v (.slice none 0 0)])), (3, .box 27 (tn (2 + i * (max K 2 + 4)) (tsum (fq f) i)))]⟩
  refine cSeq ?_
  refine cReg ?_
  refine mV hTT (.d (.one (.v (.bool (decide (((i : Nat) : Int) < (n : Int))))))) rfl ?_
  refine mNil ?_
  refine tN ?_
  refine cSeq ?_
  refine cCond rfl (fun hc1 => ?_) (fun hc1 => ?_)
  · skip
    refine cSkip ?_
    refine tN ?_
    refine cSeq ?_
    refine cBlock ?_
    refine cSeq ?_
    have hin : i < n := by have h0 := of_decide_eq_true hc1; omega
    have e1 : (i + 1) * (max K 2 + 4) = i * (max K 2 + 4) + (max K 2 + 4) := Nat.succ_mul i (max K 2 + 4)
    have e2 : (i + 1) * (max K 2 + 4) ≤ n * (max K 2 + 4) := Nat.mul_le_mul_right _ hin
    refine cReg ?_
    refine mV hTT (.d (.one (.at 4 ((tael K f) i)))) (ixR (el := (tael K f)) (z := ((i : Nat) : Int)) (n := n) rfl rfl rfl rfl rfl rfl (by omega) (by omega)) ?_
    refine mV hTT (.d (.agg ([.v (.bool ((f i).1.1)), lr K ((f i).1.2)] ++ [.v (.bool ((f i).2.1)), lr K ((f i).2.2)]))) rfl ?_
    refine mN hTT (.box 27 ([.v (.bool false), .v (.slice none 0 0), .v (.bool false), .v (.slice none 0 0)])) rfl rfl rfl ?_
    refine mS hTT 5 (.box 27 ([.v (.bool ((f i).1.1)), lr K ((f i).1.2)] ++ [.v (.bool ((f i).2.1)), lr K ((f i).2.2)])) rfl ?_
    refine mNil ?_
    refine tN ?_
    refine cReg ?_
    refine mV hTT (.d (.agg (tn (2 + i * (max K 2 + 4)) (tsum (fq f) i)))) rfl ?_
    refine mV hTT (.d (.agg ([.v (.bool ((f i).1.1)), lr K ((f i).1.2)] ++ [.v (.bool ((f i).2.1)), lr K ((f i).2.2)]))) rfl ?_
    refine mC0 (aTAdd (ist_tn (2 + i * (max K 2 + 4)) (tsum (fq f) i)) (⟨(f i).1.1, ((f i).1.2), (f i).2.1, ((f i).2.2), fun _ _ _ h => h, rfl, rfl⟩ : IsT ([.v (.bool (f i).1.1), lr K ((f i).1.2)] ++ [.v (.bool (f i).2.1), lr K ((f i).2.2)]) K (zv ((f i).1.1) (val ((f i).1.2))) (zv ((f i).2.1) (val ((f i).2.2)))) (M := (((max (2 + i * (max K 2 + 4)) 2 + 1) + (max K 2 + 1)) + 2)) (by omega) (by omega)) rfl rfl rfl ?_
    refine mS hTT 3 (.box 27 (tn (((max (2 + i * (max K 2 + 4)) 2 + 1) + (max K 2 + 1)) + 2) ((mkR (Rat.num (tsum (fq f) i)) (Rat.den (tsum (fq f) i) : Int)) + (mkR (zv ((f i).1.1) (val ((f i).1.2))) (zv ((f i).2.1) (val ((f i).2.2))))))) rfl ?_
    refine mNil ?_
    refine bN ?_
    refine tN ?_
    refine cReg ?_
    refine mV hTT (.d (.one (.v (.int .i64 (IntKind.i64.wrap (((i : Nat) : Int) + 1)))))) rfl ?_
    refine mV hTT _ rfl ?_
    refine mNil ?_
    exact ⟨(i + 1), by omega, by omega, wk (sl := [(2, .ptr 2 0), (3, .ptr 3 0), (8, .d (.one (.row 4 n (tael K f)))), (9, .d (.one (.v (.int .i64 (n : Int))))), (10, .d (.one (.v (.int .i64 (((i + 1) : Nat) : Int)))))]) (hp := [(2, .box 27 ([.v (.bool false), .v (.slice none 0 0), .v (.bool false), .v (.slice none 0 0)])), (3, .box 27 (tn (2 + (i + 1) * (max K 2 + 4)) (tsum (fq f) (i + 1))))]) rfl ⟨hs rfl, hs rfl, hs rfl, hs rfl, hs' rfl (le_int (inc64 (by omega))), trivial⟩ ⟨ho rfl, ho' rfl (leo_tn (by omega) (by rw [mkR_self]; rfl)), trivial⟩ rfl⟩
  · skip
    refine cExit ?_
    refine tE ?_
    refine tE ?_
    refine bE ?_
    refine tN ?_
    refine cSeq ?_
    refine cReg ?_
    refine mV hTT (.d (.agg (tn (2 + i * (max K 2 + 4)) (tsum (fq f) i)))) rfl ?_
    refine mS hTT 2 (.box 27 (tn (2 + i * (max K 2 + 4)) (tsum (fq f) i))) rfl ?_
    refine mNil ?_
    refine tN ?_
    refine cRet ?_
    have hie : n = i := by have h0 := of_decide_eq_false hc1; omega
    subst hie
    exact rQ rfl (le_tn hM rfl)

set_option maxRecDepth 100000 in
set_option maxHeartbeats 4000000 in
theorem aTMaxs {a : List Lf} {K L M n0 : Nat} {n d : Int} {f : Nat → (Bool × List Nat) × (Bool × List Nat)} (ha : IsT a K n d) (hM : max K 2 + 1 ≤ M := by decide) (hL : max L 2 + 1 ≤ M := by decide) (hn : n0 ≤ 100000 := by decide) (hMM : M ≤ 10000000 := by decide) : ACall Try.prog 31 [.agg a, .one (trow L n0 f)] (.d (.agg (tn M (tmax (mkR n d) (fq f) n0)))) := by
  obtain ⟨s0, xs0, t0, ys0, ha, e0, k0⟩ := ha
  refine ACall.le (dl (DV.g ha) (dl DV.same dl0)) AV.le.rfl ?_
  refine acallN hTT 24 [.cell 4 27] Try.func31 rfl rfl rfl rfl rfl ?_
  refine cSeq ?_
  refine cReg ?_
  refine mN hTT (.box 27 ([.v (.bool s0), lr K xs0] ++ [.v (.bool t0), lr K ys0])) rfl rfl rfl ?_
  refine mN hTT (.box 27 ([.v (.bool false), .v (.slice none 0 0), .v (.bool false), .v (.slice none 0 0)])) rfl rfl rfl ?_
  refine mNil ?_
  refine tN ?_
  refine cSeq ?_
  refine cReg ?_
  refine mV hTT (.d (.agg ([.v (.bool s0), lr K xs0] ++ [.v (.bool t0), lr K ys0]))) rfl ?_
  refine mC0 (aTNorm (⟨s0, xs0, t0, ys0, fun _ _ _ h => h, e0, k0⟩ : IsT ([.v (.bool s0), lr K xs0] ++ [.v (.bool t0), lr K ys0]) K n d) (M := (max K 2 + 1)) (by omega) (by omega)) rfl rfl rfl ?_
  refine mN hTT (.box 27 ([.v (.bool false), .v (.slice none 0 0), .v (.bool false), .v (.slice none 0 0)])) rfl rfl rfl ?_
  refine mS hTT 5 (.box 27 (tn (max K 2 + 1) (mkR n d))) rfl ?_
  refine mNil ?_
  refine tN ?_
  refine cSeq ?_
  refine cSeq ?_
  refine cReg ?_
  refine mV hTT _ rfl ?_
  refine mV hTT (.d (.one (.v (.int .i64 (n0 : Int))))) rfl ?_
  refine mV hTT _ rfl ?_
  refine mNil ?_
  refine tN ?_
  refine cBlock ?_
  refine cLoop (ι := Nat) (fun (i : Nat) => ⟨24, [(4, .ptr 4 0), (5, .ptr 5 0), (10, .d (.one (.row 4 n0 (tael L f)))), (11, .d (.one (.v (.int .i64 (n0 : Int))))), (12, .d (.one (.v (.int .i64 ((i : Nat) : Int)))))], [(4, .box 27 ([.v (.bool false), .v (.slice none 0 0), .v (.bool false), .v (.slice none 0 0)])), (5, .box 27 (tn M (tmax (mkR n d) (fq f) i)))]⟩) (fun (i : Nat) => i ≤ n0) (fun (i : Nat) => n0 - i) 0 (Nat.zero_le _) (wk (sl := [(4, .ptr 4 0), (5, .ptr 5 0), (10, .d (.one (.row 4 n0 (tael L f)))), (11, .d (.one (.v (.int .i64 (n0 : Int))))), (12, .d (.one (.v (.int .i64 ((0 : Nat) : Int)))))]) (hp := [(4, .box 27 ([.v (.bool false), .v (.slice none 0 0), .v (.bool false), .v (.slice none 0 0)])), (5, .box 27 (tn M (tmax (mkR n d) (fq f) 0)))]) rfl ⟨hs rfl, hs rfl, hs rfl, hs rfl, hs rfl, trivial⟩ ⟨ho rfl, ho' rfl (leo_tn (by omega) rfl), trivial⟩ rfl) ?_
  rintro i hI
  have hi : i ≤ n0 := hI
  show AW Try.prog _ _ ⟨24, [(4, .ptr 4 0), (5, .ptr 5 0), (10, .d (.one (.row 4 n0 (tael L f)))), (11, .d (.one (.v (.int .i64 (n0 : Int))))), (12, .d (.one (.v (.int .i64 ((i : Nat) : Int)))))], [(4, .box 27 ([.v (.bool false), .v (.slice none 0 0), .v (.bool false), .v (.slice none 0 0)])), (5, .box 27 (tn M (tmax (mkR n d) (fq f) i)))]⟩
  refine cSeq ?_
  refine cReg ?_
  refine mV hTT (.d (.one (.v (.bool (decide (((i : Nat) : Int) < (n0 : Int))))))) rfl ?_
  refine mNil ?_
  refine tN ?_
  refine cSeq ?_
  refine cCond rfl (fun hc1 => ?_) (fun hc1 => ?_)
  · skip
    refine cSkip ?_
    refine tN ?_
    refine cSeq ?_
    refine cBlock ?_
    refine cSeq ?_
    have hin : i < n0 := by have h0 := of_decide_eq_true hc1; omega
    refine cReg ?_
    refine mV hTT (.d (.one (.at 4 ((tael L f) i)))) (ixR (el := (tael L f)) (z := ((i : Nat) : Int)) (n := n0) rfl rfl rfl rfl rfl rfl (by omega) (by omega)) ?_
    refine mV hTT (.d (.agg ([.v (.bool ((f i).1.1)), lr L ((f i).1.2)] ++ [.v (.bool ((f i).2.1)), lr L ((f i).2.2)]))) rfl ?_
    refine mN hTT (.box 27 ([.v (.bool false), .v (.slice none 0 0), .v (.bool false), .v (.slice none 0 0)])) rfl rfl rfl ?_
    refine mS hTT 7 (.box 27 ([.v (.bool ((f i).1.1)), lr L ((f i).1.2)] ++ [.v (.bool ((f i).2.1)), lr L ((f i).2.2)])) rfl ?_
    refine mNil ?_
    refine tN ?_
    refine cSeq ?_
    refine cReg ?_
    refine mV hTT (.d (.agg ([.v (.bool ((f i).1.1)), lr L ((f i).1.2)] ++ [.v (.bool ((f i).2.1)), lr L ((f i).2.2)]))) rfl ?_
    refine mV hTT (.d (.agg (tn M (tmax (mkR n d) (fq f) i)))) rfl ?_
    refine mC0 (aTCmp (⟨(f i).1.1, ((f i).1.2), (f i).2.1, ((f i).2.2), fun _ _ _ h => h, rfl, rfl⟩ : IsT ([.v (.bool (f i).1.1), lr L ((f i).1.2)] ++ [.v (.bool (f i).2.1), lr L ((f i).2.2)]) L (zv ((f i).1.1) (val ((f i).1.2))) (zv ((f i).2.1) (val ((f i).2.2)))) (ist_tn M (tmax (mkR n d) (fq f) i)) (by omega) (by omega)) rfl rfl rfl ?_
    refine mV hTT (.d (.one (.v (.bool (decide ((cmpQ (mkR (zv ((f i).1.1) (val ((f i).1.2))) (zv ((f i).2.1) (val ((f i).2.2)))) (mkR (Rat.num (tmax (mkR n d) (fq f) i)) (Rat.den (tmax (mkR n d) (fq f) i) : Int))) > 0)))))) rfl ?_
    refine mNil ?_
    refine tN ?_
    refine cCond rfl (fun hc2 => ?_) (fun hc2 => ?_)
    · skip
      refine cReg ?_
      refine mV hTT (.d (.agg ([.v (.bool ((f i).1.1)), lr L ((f i).1.2)] ++ [.v (.bool ((f i).2.1)), lr L ((f i).2.2)]))) rfl ?_
      refine mC0 (aTNorm (⟨(f i).1.1, ((f i).1.2), (f i).2.1, ((f i).2.2), fun _ _ _ h => h, rfl, rfl⟩ : IsT ([.v (.bool (f i).1.1), lr L ((f i).1.2)] ++ [.v (.bool (f i).2.1), lr L ((f i).2.2)]) L (zv ((f i).1.1) (val ((f i).1.2))) (zv ((f i).2.1) (val ((f i).2.2)))) (M := (max L 2 + 1)) (by omega) (by omega)) rfl rfl rfl ?_
      refine mS hTT 5 (.box 27 (tn (max L 2 + 1) (mkR (zv ((f i).1.1) (val ((f i).1.2))) (zv ((f i).2.1) (val ((f i).2.2)))))) rfl ?_
      refine mNil ?_
      refine bN ?_
      refine tN ?_
      refine cReg ?_
      refine mV hTT (.d (.one (.v (.int .i64 (IntKind.i64.wrap (((i : Nat) : Int) + 1)))))) rfl ?_
      refine mV hTT _ rfl ?_
      refine mNil ?_
      exact ⟨(i + 1), by omega, by omega, wk (sl := [(4, .ptr 4 0), (5, .ptr 5 0), (10, .d (.one (.row 4 n0 (tael L f)))), (11, .d (.one (.v (.int .i64 (n0 : Int))))), (12, .d (.one (.v (.int .i64 (((i + 1) : Nat) : Int)))))]) (hp := [(4, .box 27 ([.v (.bool false), .v (.slice none 0 0), .v (.bool false), .v (.slice none 0 0)])), (5, .box 27 (tn M (tmax (mkR n d) (fq f) (i + 1))))]) rfl ⟨hs rfl, hs rfl, hs rfl, hs rfl, hs' rfl (le_int (inc64 (by omega))), trivial⟩ ⟨ho rfl, ho' rfl (leo_tn (by omega) (by show _ = (if cmpQ (fq f i) (tmax (mkR n d) (fq f) i) > 0 then fq f i else tmax (mkR n d) (fq f) i); rw [if_pos (by have h0 := of_decide_eq_true hc2; rw [mkR_self] at h0; exact h0)]; rfl)), trivial⟩ rfl⟩
    · skip
      refine cSkip ?_
      refine bN ?_
      refine tN ?_
      refine cReg ?_
      refine mV hTT (.d (.one (.v (.int .i64 (IntKind.i64.wrap (((i : Nat) : Int) + 1)))))) rfl ?_
      refine mV hTT _ rfl ?_
      refine mNil ?_
      exact ⟨(i + 1), by omega, by omega, wk (sl := [(4, .ptr 4 0), (5, .ptr 5 0), (10, .d (.one (.row 4 n0 (tael L f)))), (11, .d (.one (.v (.int .i64 (n0 : Int))))), (12, .d (.one (.v (.int .i64 (((i + 1) : Nat) : Int)))))]) (hp := [(4, .box 27 ([.v (.bool false), .v (.slice none 0 0), .v (.bool false), .v (.slice none 0 0)])), (5, .box 27 (tn M (tmax (mkR n d) (fq f) (i + 1))))]) rfl ⟨hs rfl, hs rfl, hs rfl, hs rfl, hs' rfl (le_int (inc64 (by omega))), trivial⟩ ⟨ho rfl, ho' rfl (leo_tn (by omega) (by show _ = (if cmpQ (fq f i) (tmax (mkR n d) (fq f) i) > 0 then fq f i else tmax (mkR n d) (fq f) i); rw [if_neg (by have h0 := of_decide_eq_false hc2; rw [mkR_self] at h0; exact h0)])), trivial⟩ rfl⟩
  · skip
    refine cExit ?_
    refine tE ?_
    refine tE ?_
    refine bE ?_
    refine tN ?_
    refine cSeq ?_
    refine cReg ?_
    refine mV hTT (.d (.agg (tn M (tmax (mkR n d) (fq f) i)))) rfl ?_
    refine mS hTT 4 (.box 27 (tn M (tmax (mkR n d) (fq f) i))) rfl ?_
    refine mNil ?_
    refine tN ?_
    refine cRet ?_
    have hie : n0 = i := by have h0 := of_decide_eq_false hc1; omega
    subst hie
    exact rQ rfl (le_tn (Nat.le_refl _) rfl)

set_option maxRecDepth 100000 in
set_option maxHeartbeats 4000000 in
theorem aCopyInt {K : Nat} {s : Bool} {xs : List Nat} (hK : K ≤ 1000000000 := by decide) : ACall Try.prog 101 [.agg [.v (.bool s), lr K xs]] (.d (.agg [.v (.bool s), lr K xs])) := by
  refine acallN hTT 9 [.cell 2 24] Try.func101 rfl rfl rfl rfl rfl ?_
  refine cSeq ?_
  refine cReg ?_
  refine mN hTT (.box 24 ([.v (.bool s), lr K xs])) rfl rfl rfl ?_
  refine mN hTT (.box 24 ([.v (.bool false), .v (.slice none 0 0)])) rfl rfl rfl ?_
  refine mNil ?_
  refine tN ?_
  refine cSeq ?_
  refine cDrawK hTT 6 (by kernel_rfl) (by kernel_rfl) (by kernel_rfl) ?_
  refine .cons (OpS.V (.ptr 1 0) rfl) ?_
  refine .cons (OpS.V (.d (.one (.v (.bool s)))) rfl) ?_
  refine .cons (OpS.V (.ptr 1 1) rfl) ?_
  refine .cons (OpS.V (.d (.one (lr K xs))) rfl) ?_
  refine .cons (OpS.C0 (aCopy (K := K) (xs := xs) (by omega)) rfl rfl rfl) ?_
  refine .cons (OpS.V (.d (.agg ([.v (.bool s), lr K xs]))) rfl) ?_
  refine .nil ?_
  refine mS hTT 2 (.box 24 ([.v (.bool s), lr K xs])) rfl ?_
  refine mNil ?_
  refine tN ?_
  refine cRet ?_
  exact rQ rfl (AV.le.rfl)

set_option maxRecDepth 100000 in
set_option maxHeartbeats 4000000 in
theorem aCopyRat {K : Nat} {s t : Bool} {xs ys : List Nat} (hK : K ≤ 1000000000 := by decide) : ACall Try.prog 48 [.agg (tan K s xs t ys)] (.d (.agg (tan K s xs t ys))) := by
  refine acallN hTT 10 [.cell 2 27] Try.func48 rfl rfl rfl rfl rfl ?_
  refine cSeq ?_
  refine cReg ?_
  refine mN hTT (.box 27 ([.v (.bool s), lr K xs] ++ [.v (.bool t), lr K ys])) rfl rfl rfl ?_
  refine mN hTT (.box 27 ([.v (.bool false), .v (.slice none 0 0), .v (.bool false), .v (.slice none 0 0)])) rfl rfl rfl ?_
  refine mNil ?_
  refine tN ?_
  refine cSeq ?_
  refine cDrawK hTT 7 (by kernel_rfl) (by kernel_rfl) (by kernel_rfl) ?_
  refine .cons (OpS.V (.ptr 1 0) rfl) ?_
  refine .cons (OpS.V (.d (.agg ([.v (.bool s), lr K xs]))) rfl) ?_
  refine .cons (OpS.C0 (aCopyInt (K := K) (s := s) (xs := xs) (by omega)) rfl rfl rfl) ?_
  refine .cons (OpS.V (.ptr 1 2) rfl) ?_
  refine .cons (OpS.V (.d (.agg ([.v (.bool t), lr K ys]))) rfl) ?_
  refine .cons (OpS.C0 (aCopyInt (K := K) (s := t) (xs := ys) (by omega)) rfl rfl rfl) ?_
  refine .cons (OpS.V (.d (.agg ([.v (.bool s), lr K xs] ++ [.v (.bool t), lr K ys]))) rfl) ?_
  refine .nil ?_
  refine mS hTT 2 (.box 27 ([.v (.bool s), lr K xs] ++ [.v (.bool t), lr K ys])) rfl ?_
  refine mNil ?_
  refine tN ?_
  refine cRet ?_
  exact rQ rfl (AV.le.rfl)

theorem aSameX {K L : Nat} {xs : List Nat} (hK : K ≤ 1000000000 := by decide) (hL : L ≤ 1000000000 := by decide) : ACall Try.prog 94 [.one (lr K xs), .one (lr L xs)] (.d (.one (.v (.bool true)))) := ACall.le (dl DV.same (dl DV.same dl0)) (le_bool (decide_eq_true rfl)) (aSame (by omega) (by omega))
set_option maxRecDepth 100000 in
set_option maxHeartbeats 4000000 in
theorem aSameInt {K L : Nat} {s : Bool} {xs : List Nat} (hK : K ≤ 1000000000 := by decide) (hL : L ≤ 1000000000 := by decide) : ACall Try.prog 38 [.agg [.v (.bool s), lr K xs], .agg [.v (.bool s), lr L xs]] (.d (.one (.v (.bool true)))) := by
  refine acallN hTT 17 [.tmp 4] Try.func38 rfl rfl rfl rfl rfl ?_
  refine cSeq ?_
  refine cReg ?_
  refine mN hTT (.box 24 ([.v (.bool s), lr K xs])) rfl rfl rfl ?_
  refine mN hTT (.box 24 ([.v (.bool s), lr L xs])) rfl rfl rfl ?_
  refine mV hTT _ rfl ?_
  refine mNil ?_
  refine tN ?_
  refine cSeq ?_
  refine cReg ?_
  refine mV hTT (.ptr 2 0) rfl ?_
  refine mV hTT (.d (.one (.v (.bool s)))) rfl ?_
  refine mV hTT (.ptr 3 0) rfl ?_
  refine mV hTT (.d (.one (.v (.bool s)))) rfl ?_
  refine mV hTT (.d (.one (.v (.bool true)))) (evb (beq_self_eq_true _)) ?_
  refine mV hTT _ rfl ?_
  refine mV hTT (.ptr 2 1) rfl ?_
  refine mV hTT (.d (.one (lr K xs))) rfl ?_
  refine mV hTT (.ptr 3 1) rfl ?_
  refine mV hTT (.d (.one (lr L xs))) rfl ?_
  refine mC0 (aSameX (K := K) (L := L) (xs := xs) (by omega) (by omega)) rfl rfl rfl ?_
  refine mV hTT _ rfl ?_
  refine mV hTT _ rfl ?_
  refine mNil ?_
  refine tN ?_
  refine cRet ?_
  exact rQ rfl (AV.le.rfl)

theorem aSameZ {K L : Nat} {x y : Int} (h : x = y) (hK : K ≤ 1000000000 := by decide) (hL : L ≤ 1000000000 := by decide) : ACall Try.prog 38 [.agg (zn K x), .agg (zn L y)] (.d (.one (.v (.bool true)))) := by subst h; exact aSameInt hK hL
set_option maxRecDepth 100000 in
set_option maxHeartbeats 4000000 in
theorem aSameRat {K L : Nat} {s t : Bool} {xs ys : List Nat} (hK : K ≤ 1000000000 := by decide) (hL : L ≤ 1000000000 := by decide) : ACall Try.prog 35 [.agg (tan K s xs t ys), .agg (tan L s xs t ys)] (.d (.one (.v (.bool true)))) := by
  refine acallN hTT 17 [.tmp 4] Try.func35 rfl rfl rfl rfl rfl ?_
  refine cSeq ?_
  refine cReg ?_
  refine mN hTT (.box 27 ([.v (.bool s), lr K xs] ++ [.v (.bool t), lr K ys])) rfl rfl rfl ?_
  refine mN hTT (.box 27 ([.v (.bool s), lr L xs] ++ [.v (.bool t), lr L ys])) rfl rfl rfl ?_
  refine mV hTT _ rfl ?_
  refine mNil ?_
  refine tN ?_
  refine cSeq ?_
  refine cReg ?_
  refine mV hTT (.ptr 2 0) rfl ?_
  refine mV hTT (.d (.agg ([.v (.bool s), lr K xs]))) rfl ?_
  refine mV hTT (.ptr 3 0) rfl ?_
  refine mV hTT (.d (.agg ([.v (.bool s), lr L xs]))) rfl ?_
  refine mC0 (aSameInt (K := K) (L := L) (s := s) (xs := xs) (by omega) (by omega)) rfl rfl rfl ?_
  refine mV hTT _ rfl ?_
  refine mV hTT (.ptr 2 2) rfl ?_
  refine mV hTT (.d (.agg ([.v (.bool t), lr K ys]))) rfl ?_
  refine mV hTT (.ptr 3 2) rfl ?_
  refine mV hTT (.d (.agg ([.v (.bool t), lr L ys]))) rfl ?_
  refine mC0 (aSameInt (K := K) (L := L) (s := t) (xs := ys) (by omega) (by omega)) rfl rfl rfl ?_
  refine mV hTT _ rfl ?_
  refine mV hTT _ rfl ?_
  refine mNil ?_
  refine tN ?_
  refine cRet ?_
  exact rQ rfl (AV.le.rfl)

set_option maxRecDepth 100000 in
set_option maxHeartbeats 4000000 in
theorem aSameT {K L : Nat} {p q : Rat} (h : p = q) (hK : K ≤ 1000000000 := by decide) (hL : L ≤ 1000000000 := by decide) : ACall Try.prog 35 [.agg (tn K p), .agg (tn L q)] (.d (.one (.v (.bool true)))) := by
  subst h
  refine acallN hTT 17 [.tmp 4] Try.func35 rfl rfl rfl rfl rfl ?_
  refine cSeq ?_
  refine cReg ?_
  refine mN hTT (.box 27 (tn K p)) rfl rfl rfl ?_
  refine mN hTT (.box 27 (tn L p)) rfl rfl rfl ?_
  refine mV hTT _ rfl ?_
  refine mNil ?_
  refine tN ?_
  refine cSeq ?_
  refine cReg ?_
  refine mV hTT (.ptr 2 0) rfl ?_
  refine mV hTT (.d (.agg (zn K (Rat.num p)))) rfl ?_
  refine mV hTT (.ptr 3 0) rfl ?_
  refine mV hTT (.d (.agg (zn L (Rat.num p)))) rfl ?_
  refine mC0 (aSameZ (K := K) (L := L) (x := (Rat.num p)) (y := (Rat.num p)) rfl (by omega) (by omega)) rfl rfl rfl ?_
  refine mV hTT _ rfl ?_
  refine mV hTT (.ptr 2 2) rfl ?_
  refine mV hTT (.d (.agg (zn K (Rat.den p : Int)))) rfl ?_
  refine mV hTT (.ptr 3 2) rfl ?_
  refine mV hTT (.d (.agg (zn L (Rat.den p : Int)))) rfl ?_
  refine mC0 (aSameZ (K := K) (L := L) (x := (Rat.den p : Int)) (y := (Rat.den p : Int)) rfl (by omega) (by omega)) rfl rfl rfl ?_
  refine mV hTT _ rfl ?_
  refine mV hTT _ rfl ?_
  refine mNil ?_
  refine tN ?_
  refine cRet ?_
  exact rQ rfl (AV.le.rfl)

set_option maxRecDepth 100000 in
set_option maxHeartbeats 4000000 in
theorem aRHalf {a b : List Lf} {K L M : Nat} {x y : Rat} (ha : IsQ a K x) (hb : IsQ b L y) (hM : max K 64 + L + 200 ≤ M := by decide) (hMM : M ≤ 1000000 := by decide) : ACall Try.prog 52 [.agg a, .agg b] (.d (.agg (qn M ((x + y) / 2)))) := by
  refine ACall.le (dl (DV.g ha) (dl (DV.g hb) dl0)) AV.le.rfl ?_
  refine acallN hTT 10 [.cell 4 40] Try.func52 rfl rfl rfl rfl rfl ?_
  refine cSeq ?_
  refine cReg ?_
  refine mN hTT (.box 40 (qn K x)) rfl rfl rfl ?_
  refine mN hTT (.box 40 (qn L y)) rfl rfl rfl ?_
  refine mN hTT (.box 40 ([.v (.slice none 0 0), .v (.bool false), .v (.slice none 0 0), .v (.bool false)])) rfl rfl rfl ?_
  refine mNil ?_
  refine tN ?_
  refine cSeq ?_
  refine cReg ?_
  refine mV hTT (.d (.agg (qn K x))) rfl ?_
  refine mV hTT (.d (.agg (qn L y))) rfl ?_
  refine mC0 (aRAddR (isq K x) (isq L y) (M := (max (K + L + 1) 64)) (by omega) (by omega)) rfl rfl rfl ?_
  refine mC0 (aROfR (n := 1) (d := 2) (by decide) (by decide) (by decide) (by decide)) rfl rfl rfl ?_
  refine mC0 (aRMulR (isq (max (K + L + 1) 64) (x + y)) (isq 64 (mkR 1 2)) (M := (max ((max (K + L + 1) 64) + 64 + 1) 64)) (by omega) (by omega)) rfl rfl rfl ?_
  refine mS hTT 4 (.box 40 (qn (max ((max (K + L + 1) 64) + 64 + 1) 64) ((x + y) * (mkR 1 2)))) rfl ?_
  refine mNil ?_
  refine tN ?_
  refine cRet ?_
  exact rQ rfl (le_qn (by omega) (half_mul x y))

end Go.Proofs.Ytmfmeecnieblpaa

