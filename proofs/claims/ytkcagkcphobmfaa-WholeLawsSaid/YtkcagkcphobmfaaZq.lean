/-
  WALKS: the plain reckoning's greatest common divisor.
-/
import Derived.Test.YtkcagkcphobmfaaZp
import Derived.Deep.LoopGhost
set_option linter.unusedVariables false
set_option linter.unusedSimpArgs false
namespace Go.Proofs.Ytkcagkcphobmfaa
open Go.RowKit

theorem gcd_step (A X : Nat) : Nat.gcd X (A % X) = Nat.gcd A X := by
  rw [Nat.gcd_comm A X, Nat.gcd_rec X A, Nat.gcd_comm]

theorem Dg.num {K : Nat} {w : World} {ao : Option Addr} {n c M : Nat} (h : Dg K w ao n c M) : Rn K w ao n c false (M : Int) :=
  ⟨h.1, by rw [Int.natAbs_natCast]; exact h.2, by rw [decide_eq_false]; omega⟩

set_option maxRecDepth 100000 in
set_option maxHeartbeats 8000000 in
theorem rGcd {K L : Nat} {w : World} {s t : Bool} {ao bo : Option Addr} {n c m d : Nat} {x y : Int} (h : Rn K w ao n c s x) (k : Rn L w bo m d t y) (hK : K ≤ 100000000 := by omega) (hL : L ≤ 100000000 := by omega) :
    Calls Try.prog 25 #[.agg #[.slice ao n c, .bool s], .agg #[.slice bo m d, .bool t]] w (RetR (max K L) w ((Nat.gcd x.natAbs y.natAbs : Nat) : Int)) := by
  go_enter Try.func25, Try.ntmps25
  have hB := Below.refl w.heap.size w
  go_wp2_with fail
  obtain ⟨w1, g2, hw3, hg4, hb5, al6, ge7, sz8⟩ := mk_alloc w [(.slice ao n c), (.bool s)] 28 (N := w.heap.size) rfl
  rw [← hw3]
  have G9 := below_ge hB ge7
  replace hB := ext_trans hB al6
  replace h := h.ext al6
  replace k := k.ext al6
  clear hw3 al6 ge7
  obtain ⟨w10, g11, hw12, hg13, hb14, al15, ge16, sz17⟩ := mk_alloc w1 [(.slice bo m d), (.bool t)] 28 (N := w.heap.size + 1) sz8
  rw [← hw12]
  have Ng2_g11 := hb5.ne ge16
  have G18 := below_ge hB ge16
  replace hB := ext_trans hB al15
  replace h := h.ext al15
  replace k := k.ext al15
  replace hb5 := hb5.ext al15
  clear hw12 al15 ge16
  obtain ⟨w19, g20, hw21, hg22, hb23, al24, ge25, sz26⟩ := mk_alloc w10 [(.slice none 0 0), (.bool false)] 28 (N := w.heap.size + 1 + 1) sz17
  rw [← hw21]
  have Ng2_g20 := hb5.ne ge25
  have Ng11_g20 := hb14.ne ge25
  have G27 := below_ge hB ge25
  replace hB := ext_trans hB al24
  replace h := h.ext al24
  replace k := k.ext al24
  replace hb5 := hb5.ext al24
  replace hb14 := hb14.ext al24
  clear hw21 al24 ge25
  try rw [show w.heap.size + 2 = g20 from hg22.symm]
  try rw [← hg22]
  rw [← hg13]
  rw [← hg4]
  clear hg4 hg13 hg22 sz8 sz17 sz26
  obtain ⟨Φs, hΦ⟩ : ∃ Φ : List PV, Φ = [PV.eq (.pointer (some ⟨g2, 0, none⟩)), PV.eq (.slice ao n c), PV.eq (.pointer (some ⟨g11, 0, none⟩)), PV.eq (.slice bo m d), PV.eq (.slice ao n c), PV.eq (.slice bo m d)] := ⟨_, rfl⟩
  have ph0 : Φs[0]? = some (PV.eq (.pointer (some ⟨g2, 0, none⟩))) := by rw [hΦ]; rfl
  have ph1 : Φs[1]? = some (PV.eq (.slice ao n c)) := by rw [hΦ]; rfl
  have ph2 : Φs[2]? = some (PV.eq (.pointer (some ⟨g11, 0, none⟩))) := by rw [hΦ]; rfl
  have ph3 : Φs[3]? = some (PV.eq (.slice bo m d)) := by rw [hΦ]; rfl
  have ph4 : Φs[4]? = some (PV.eq (.slice ao n c)) := by rw [hΦ]; rfl
  have ph5 : Φs[5]? = some (PV.eq (.slice bo m d)) := by rw [hΦ]; rfl
  clear hΦ
  refine wp_region_rel 6 26 Φs (by kernel_rfl) rfl rfl (by kernel_rfl) ?_ ?_
  · simp only [List.take_succ_cons, List.take_zero, stepsR]
    refine ⟨?_, ?_, ?_, ?_, ?_, ?_, trivial⟩
    · intro vs w' hE hp
      simp only [Nat.reduceAdd, Act.put, List.setIfInBounds_toArray, List.set_cons_zero, List.set_cons_succ]
      refine ifW_pos (by rfl) ?_
      refine wp_hideK (fun K' hK => ?_)
      go_wp2_with fail
      exact ⟨rfl, Below.refl _ _, (phi_iff ph0).2 rfl⟩
    · intro vs w' hE hp
      have p0_1 : vs 0 = (.pointer (some ⟨g2, 0, none⟩)) := (phi_iff ph0).1 (hp 0 rfl)
      simp only [Nat.reduceAdd, Act.put, List.setIfInBounds_toArray, List.set_cons_zero, List.set_cons_succ, p0_1]
      refine ifW_pos (by rfl) ?_
      obtain ⟨a0, a1, a2, a3⟩ := cells2 (hb5.ext (trans_drew hE))
      refine wp_hideK (fun K' hK => ?_)
      go_wp2_with fail
      exact ⟨rfl, Below.refl _ _, (phi_iff ph1).2 rfl⟩
    · intro vs w' hE hp
      simp only [Nat.reduceAdd, Act.put, List.setIfInBounds_toArray, List.set_cons_zero, List.set_cons_succ]
      refine ifW_pos (by rfl) ?_
      refine wp_hideK (fun K' hK => ?_)
      go_wp2_with fail
      exact ⟨rfl, Below.refl _ _, (phi_iff ph2).2 rfl⟩
    · intro vs w' hE hp
      have p2_3 : vs 2 = (.pointer (some ⟨g11, 0, none⟩)) := (phi_iff ph2).1 (hp 2 rfl)
      simp only [Nat.reduceAdd, Act.put, List.setIfInBounds_toArray, List.set_cons_zero, List.set_cons_succ, p2_3]
      refine ifW_pos (by rfl) ?_
      obtain ⟨a0, a1, a2, a3⟩ := cells2 (hb14.ext (trans_drew hE))
      refine wp_hideK (fun K' hK => ?_)
      go_wp2_with fail
      exact ⟨rfl, Below.refl _ _, (phi_iff ph3).2 rfl⟩
    · intro vs w' hE hp
      have p1_4 : vs 1 = (.slice ao n c) := (phi_iff ph1).1 (hp 1 rfl)
      simp only [Nat.reduceAdd, Act.put, List.setIfInBounds_toArray, List.set_cons_zero, List.set_cons_succ, p1_4]
      refine ifW_pos (by rfl) ?_
      refine wp_hideK (fun K' hK => ?_)
      go_wp2_with fail
      exact ⟨rfl, Below.refl _ _, (phi_iff ph4).2 rfl⟩
    · intro vs w' hE hp
      have p3_5 : vs 3 = (.slice bo m d) := (phi_iff ph3).1 (hp 3 rfl)
      simp only [Nat.reduceAdd, Act.put, List.setIfInBounds_toArray, List.set_cons_zero, List.set_cons_succ, p3_5]
      refine ifW_pos (by rfl) ?_
      refine wp_hideK (fun K' hK => ?_)
      go_wp2_with fail
      exact ⟨rfl, Below.refl _ _, (phi_iff ph5).2 rfl⟩
  · intro vs w28 hE hphi
    have p4e : vs 4 = (.slice ao n c) := (phi_iff ph4).1 (hphi 4 (by decide))
    have p5e : vs 5 = (.slice bo m d) := (phi_iff ph5).1 (hphi 5 (by decide))
    replace h := h.ext (trans_drew hE)
    replace k := k.ext (trans_drew hE)
    replace hb5 := hb5.ext (trans_drew hE)
    replace hb14 := hb14.ext (trans_drew hE)
    replace hb23 := hb23.ext (trans_drew hE)
    replace hB := ext_trans hB (trans_drew hE)
    clear hphi hE ph0 ph1 ph2 ph3 ph4 ph5
    simp only [putsR, List.take_succ_cons, List.take_zero, List.drop_succ_cons, List.drop_zero, List.drop_nil, Nat.reduceAdd, Act.put, List.setIfInBounds_toArray, List.set_cons_zero, List.set_cons_succ, p4e, p5e]
    clear p4e p5e
    go_wp2_with fail
    obtain ⟨KK, hKK⟩ : ∃ KK, KK = max K L := ⟨_, rfl⟩
    have hKKb : KK ≤ 100000000 := by omega
    have hA := h.dg.mono (show K ≤ KK by omega)
    have hX := k.dg.mono (show L ≤ KK by omega)
    have HKK := hid hKK; clear hKK h k
    go_loopg [5, 6] y.natAbs (fun X s5 s6 wr => ∃ (A : Nat) (oa : Option Addr) (ma da : Nat) (ox : Option Addr) (mx dx : Nat), s5 = .slice oa ma da ∧ s6 = .slice ox mx dx ∧ Dg KK wr oa ma da A ∧ Dg KK wr ox mx dx X ∧ Nat.gcd A X = Nat.gcd x.natAbs y.natAbs ∧
      Blk wr g20 28 [.slice none 0 0, .bool false] ∧ Below w.heap.size w wr)
    case atStart => exact ⟨_, _, _, _, _, _, _, rfl, rfl, hA, hX, rfl, hb23, hB⟩
    case round =>
      clear hA hX hB hb23 hb5 hb14
      obtain ⟨A, oa, ma, da, ox, mx, dx, rfl, rfl, hA, hX, hg, hb23, hB⟩ := hrel
      have HG := hid hg; clear hg
      have hz := hX.zero
      by_cases h0 : gk = 0
      · skip
        obtain rfl : mx = 0 := hz.2 h0
        have HGA : Hid (A = Nat.gcd x.natAbs y.natAbs) := hid (by rw [← HG.out, h0, Nat.gcd_zero_right])
        clear hz h0
        obtain ⟨a29, a30, f31, f32⟩ := cells2 hb23
        have l33 := hb23.lt
        go_wp2_with fail
        clear a29 a30 f31 f32 l33
        obtain ⟨w34, hw35, hu36, hb37, sz38⟩ := mk_set2 hb23 (.slice oa ma da) (.bool false) (N := wr.heap.size) rfl
        rw [← hw35]
        replace hA := hA.upd hb23 (noInt_rr _ _ _ _) hu36
        replace hX := hX.upd hb23 (noInt_rr _ _ _ _) hu36
        replace hB := below_upd hB G27.out hb23.lt hu36
        clear hw35 hu36 hb23
        clear sz38
        obtain ⟨a39, a40, f41, f42⟩ := cells2 hb37
        have l43 := hb37.lt
        go_wp2
        refine bodyPost_ret (by simp [results, Try.results25, go_sem, a39, a40]; try rfl) rfl ?_
        rw [HGA.out, HKK.out] at hA
        exact ⟨_, _, _, _, rfl, hA.num, hB⟩
      · skip
        have hm0 : 0 < mx := by omega
        have e1 : decide ((0 : Int) < (mx : Int)) = true := by rw [decide_eq_true_eq]; omega
        have e2 : decide (0 < mx) = true := decide_eq_true hm0
        have HZ : Hid (0 < gk) := hid (by omega)
        clear hz h0
        go_wp2_with fail
        refine (nDiv hA hX HZ.out).mono ?_
        rintro e w31 ⟨qo, qn, qc, ro, rn, rc, rfl, h29, h30, hb32⟩
        replace hA := hA.ext hb32
        replace hX := hX.ext hb32
        replace hb23 := hb23.ext hb32
        replace hB := ext_trans hB hb32
        clear hb32
        go_wp2_with fail
        go_roundg (A % gk)
        case measure => exact Nat.mod_lt _ HZ.out
        case rel => exact ⟨gk, _, _, _, _, _, _, rfl, rfl, hX, h30, by rw [gcd_step]; exact HG.out, hb23, hB⟩

end Go.Proofs.Ytkcagkcphobmfaa
