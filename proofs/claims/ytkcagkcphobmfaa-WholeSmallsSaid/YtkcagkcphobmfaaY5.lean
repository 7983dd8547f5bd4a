/-
  THE WALK OF THE STATEMENT: whether a number is small.
-/
import Derived.Test.YtkcagkcphobmfaaZp
set_option linter.unusedVariables false
set_option linter.unusedSimpArgs false
namespace Go.Proofs.Ytkcagkcphobmfaa
open Go.RowKit

theorem cmp_yes {M : Nat} (h : M < 2 ^ 62) : cmpZ (M : Int) ((2 ^ 62 : Nat) : Int) = -1 := by unfold cmpZ; rw [if_pos (by omega)]
theorem small_range {z : Int} (h : z.natAbs < 2 ^ 62) : -9223372036854775808 ≤ z ∧ z ≤ 9223372036854775807 := by
  have h2 : (2 : Nat) ^ 62 = 4611686018427387904 := by decide
  omega
theorem cmp_no {M : Nat} (h : ¬ M < 2 ^ 62) : 0 ≤ cmpZ (M : Int) ((2 ^ 62 : Nat) : Int) := cmpZ_ge.2 (by omega)

set_option maxRecDepth 100000 in
set_option maxHeartbeats 8000000 in
theorem wholeSmalls_walk {w : World} {s0 : Bool} {a0 : Option Addr} {n0 c0 : Nat} {x0 : Int} (h0 : Za 9223372036854775807 w s0 a0 n0 c0 x0) :
    Calls Try.prog 6 #[.agg #[.bool s0, .slice a0 n0 c0]] w (RetV (.bool true) w) := by
  go_enter Try.func6, Try.ntmps6
  have hB := Below.refl w.heap.size w
  go_wp2_with fail
  obtain ⟨w1, g2, hw3, hg4, hb5, al6, ge7, sz8⟩ := mk_alloc w [(.bool s0), (.slice a0 n0 c0)] 24 (N := w.heap.size) rfl
  rw [← hw3]
  have G9 := below_ge hB ge7
  replace hB := ext_trans hB al6
  replace h0 := h0.ext al6
  clear hw3 al6 ge7
  rw [← hg4]
  clear hg4 sz8
  refine (lof 4 h0).mono ?_
  rintro e w11 ⟨m10, z10, p10, q10, d10, r10, rfl, h10, k10, hb12⟩
  replace h0 := h0.ext hb12
  replace hb5 := hb5.ext hb12
  replace hB := ext_trans hB hb12
  clear hb12
  by_cases hz : Int.natAbs z10 < 2 ^ 62
  · have hzb := small_range hz
    obtain ⟨hz1, hz2⟩ := hzb
    have HZ := hid hz; clear hz
    obtain ⟨a13, a14, f15, f16⟩ := cells2 hb5
    have l17 := hb5.lt
    go_wp2_with fail
    clear a13 a14 f15 f16 l17
    obtain ⟨w18, hw19, hu20, hb21, sz22⟩ := mk_set2 hb5 (.bool s0) (.slice a0 m10 c0) (N := w11.heap.size) rfl
    rw [← hw19]
    replace h0 := h0.upd hb5 (noInt_zz _ _ _ _) hu20
    replace h10 := h10.upd hb5 (noInt_zz _ _ _ _) hu20
    replace k10 := k10.upd hb5 (noInt_zz _ _ _ _) hu20
    replace hB := below_upd hB G9.out hb5.lt hu20
    clear hw19 hu20 hb5
    obtain ⟨w23, g24, hw25, hg26, hb27, al28, ge29, sz30⟩ := mk_alloc w18 [(.slice p10 q10 d10), (.bool r10)] 28 (N := w11.heap.size) sz22
    rw [← hw25]
    have Ng2_g24 := hb21.ne ge29
    have G31 := below_ge hB ge29
    replace hB := ext_trans hB al28
    replace h0 := h0.ext al28
    replace h10 := h10.ext al28
    replace k10 := k10.ext al28
    replace hb21 := hb21.ext al28
    clear hw25 al28 ge29
    rw [← hg26]
    clear hg26 sz22 sz30
    refine (wSmall h10 (HZ.out)).mono ?_
    rintro e w32 ⟨rfl, hb33⟩
    replace h0 := h0.ext hb33
    replace h10 := h10.ext hb33
    replace k10 := k10.ext hb33
    replace hb21 := hb21.ext hb33
    replace hb27 := hb27.ext hb33
    replace hB := ext_trans hB hb33
    clear hb33
    go_wp2_with fail
    obtain ⟨Φs, hΦ⟩ : ∃ Φ : List PV, Φ = [PV.eq (.pointer (some ⟨g24, 0, none⟩)), PV.eq (.slice p10 q10 d10), PV.dg 63 (2 ^ 62), PV.eq (.int .i64 (-1)), PV.eq (.bool true), PV.eq (.bool true)] := ⟨_, rfl⟩
    have ph0 : Φs[0]? = some (PV.eq (.pointer (some ⟨g24, 0, none⟩))) := by rw [hΦ]; rfl
    have ph1 : Φs[1]? = some (PV.eq (.slice p10 q10 d10)) := by rw [hΦ]; rfl
    have ph2 : Φs[2]? = some (PV.dg 63 (2 ^ 62)) := by rw [hΦ]; rfl
    have ph3 : Φs[3]? = some (PV.eq (.int .i64 (-1))) := by rw [hΦ]; rfl
    have ph4 : Φs[4]? = some (PV.eq (.bool true)) := by rw [hΦ]; rfl
    have ph5 : Φs[5]? = some (PV.eq (.bool true)) := by rw [hΦ]; rfl
    clear hΦ
    refine wp_region_rel 6 46 Φs (by kernel_rfl) rfl rfl (by kernel_rfl) ?_ ?_
    · simp only [List.take_succ_cons, List.take_zero, stepsR]
      refine ⟨?_, ?_, ?_, ?_, ?_, ?_, trivial⟩
      · intro vs w' hE hp
        simp only [Nat.reduceAdd, Act.put, List.setIfInBounds_toArray, List.set_cons_zero, List.set_cons_succ]
        refine ifW_pos (by rfl) ?_
        refine wp_hideK (fun K' hK => ?_)
        go_wp2_with fail
        exact ⟨rfl, Below.refl _ _, (phi_iff ph0).2 rfl⟩
      · intro vs w' hE hp
        have p0_1 : vs 0 = (.pointer (some ⟨g24, 0, none⟩)) := (phi_iff ph0).1 (hp 0 rfl)
        simp only [Nat.reduceAdd, Act.put, List.setIfInBounds_toArray, List.set_cons_zero, List.set_cons_succ, p0_1]
        refine ifW_pos (by rfl) ?_
        obtain ⟨a0, a1, a2, a3⟩ := cells2 (hb27.ext (trans_drew hE))
        refine wp_hideK (fun K' hK => ?_)
        go_wp2_with fail
        exact ⟨rfl, Below.refl _ _, (phi_iff ph1).2 rfl⟩
      · intro vs w' hE hp
        simp only [Nat.reduceAdd, Act.put, List.setIfInBounds_toArray, List.set_cons_zero, List.set_cons_succ]
        refine ifW_pos (by rfl) ?_
        refine wp_hideK (fun K' hK => ?_)
        go_wp2_with fail
        refine (nPow 62 _).mono ?_
        rintro e w2 ⟨o34, n34, c34, rfl, h34, hb⟩
        go_wp2_with fail
        exact ⟨rfl, hb, (phi_iff ph2).2 ⟨_, _, _, rfl, h34.mono (by decide)⟩⟩
      · intro vs w' hE hp
        have p1_3 : vs 1 = (.slice p10 q10 d10) := (phi_iff ph1).1 (hp 1 rfl)
        obtain ⟨o2_3, n2_3, c2_3, p2_3, q2_3⟩ : ∃ o n c, vs 2 = .slice o n c ∧ Dg 63 w' o n c (2 ^ 62) := (phi_iff ph2).1 (hp 2 rfl)
        simp only [Nat.reduceAdd, Act.put, List.setIfInBounds_toArray, List.set_cons_zero, List.set_cons_succ, p1_3, p2_3]
        refine ifW_pos (by rfl) ?_
        have k10 := k10.ext (trans_drew hE)
        refine wp_hideK (fun K' hK => ?_)
        go_wp2_with fail
        refine (nCmp (v := (-1)) k10.dg q2_3 (cmp_yes HZ.out)).mono ?_
        rintro e w2 ⟨rfl, hb⟩
        go_wp2_with fail
        exact ⟨rfl, hb, (phi_iff ph3).2 rfl⟩
      · intro vs w' hE hp
        have p3_4 : vs 3 = (.int .i64 (-1)) := (phi_iff ph3).1 (hp 3 rfl)
        simp only [Nat.reduceAdd, Act.put, List.setIfInBounds_toArray, List.set_cons_zero, List.set_cons_succ, p3_4]
        refine ifW_pos (by rfl) ?_
        refine wp_hideK (fun K' hK => ?_)
        go_wp2_with fail
        exact ⟨rfl, Below.refl _ _, (phi_iff ph4).2 rfl⟩
      · intro vs w' hE hp
        have p4_5 : vs 4 = (.bool true) := (phi_iff ph4).1 (hp 4 rfl)
        simp only [Nat.reduceAdd, Act.put, List.setIfInBounds_toArray, List.set_cons_zero, List.set_cons_succ, p4_5]
        refine ifW_pos (by rfl) ?_
        refine wp_hideK (fun K' hK => ?_)
        go_wp2_with fail
        exact ⟨rfl, Below.refl _ _, (phi_iff ph5).2 rfl⟩
    · intro vs w35 hE hphi
      have p5e : vs 5 = (.bool true) := (phi_iff ph5).1 (hphi 5 (by decide))
      replace h0 := h0.ext (trans_drew hE)
      replace h10 := h10.ext (trans_drew hE)
      replace k10 := k10.ext (trans_drew hE)
      replace hb21 := hb21.ext (trans_drew hE)
      replace hb27 := hb27.ext (trans_drew hE)
      replace hB := ext_trans hB (trans_drew hE)
      clear hphi hE ph0 ph1 ph2 ph3 ph4 ph5
      simp only [putsR, List.take_succ_cons, List.take_zero, List.drop_succ_cons, List.drop_zero, List.drop_nil, Nat.reduceAdd, Act.put, List.setIfInBounds_toArray, List.set_cons_zero, List.set_cons_succ, p5e]
      clear p5e
      go_wp2_with fail
      obtain ⟨Φs, hΦ⟩ : ∃ Φ : List PV, Φ = [PV.eq (.bool true), PV.eq (.bool true), PV.eq (.bool true), PV.eq (.bool true), PV.eq (.bool true), PV.eq (.bool false), PV.eq (.bool false), PV.eq undef, PV.eq undef, PV.eq (.bool false), PV.eq (.bool false), PV.eq (.bool true), PV.eq (.bool true), PV.eq (.int .i64 z10), PV.rn 64 z10, PV.eq (.agg #[(.slice p10 q10 d10), (.bool r10)]), PV.eq (.int .i64 0), PV.eq (.bool true), PV.eq (.bool true), PV.eq (.bool true), PV.eq (.bool true), PV.eq (.bool true), PV.eq (.bool true), PV.eq (.bool true), PV.eq (.bool true)] := ⟨_, rfl⟩
      have ph0 : Φs[0]? = some (PV.eq (.bool true)) := by rw [hΦ]; rfl
      have ph1 : Φs[1]? = some (PV.eq (.bool true)) := by rw [hΦ]; rfl
      have ph2 : Φs[2]? = some (PV.eq (.bool true)) := by rw [hΦ]; rfl
      have ph3 : Φs[3]? = some (PV.eq (.bool true)) := by rw [hΦ]; rfl
      have ph4 : Φs[4]? = some (PV.eq (.bool true)) := by rw [hΦ]; rfl
      have ph5 : Φs[5]? = some (PV.eq (.bool false)) := by rw [hΦ]; rfl
      have ph6 : Φs[6]? = some (PV.eq (.bool false)) := by rw [hΦ]; rfl
      have ph7 : Φs[7]? = some (PV.eq undef) := by rw [hΦ]; rfl
      have ph8 : Φs[8]? = some (PV.eq undef) := by rw [hΦ]; rfl
      have ph9 : Φs[9]? = some (PV.eq (.bool false)) := by rw [hΦ]; rfl
      have ph10 : Φs[10]? = some (PV.eq (.bool false)) := by rw [hΦ]; rfl
      have ph11 : Φs[11]? = some (PV.eq (.bool true)) := by rw [hΦ]; rfl
      have ph12 : Φs[12]? = some (PV.eq (.bool true)) := by rw [hΦ]; rfl
      have ph13 : Φs[13]? = some (PV.eq (.int .i64 z10)) := by rw [hΦ]; rfl
      have ph14 : Φs[14]? = some (PV.rn 64 z10) := by rw [hΦ]; rfl
      have ph15 : Φs[15]? = some (PV.eq (.agg #[(.slice p10 q10 d10), (.bool r10)])) := by rw [hΦ]; rfl
      have ph16 : Φs[16]? = some (PV.eq (.int .i64 0)) := by rw [hΦ]; rfl
      have ph17 : Φs[17]? = some (PV.eq (.bool true)) := by rw [hΦ]; rfl
      have ph18 : Φs[18]? = some (PV.eq (.bool true)) := by rw [hΦ]; rfl
      have ph19 : Φs[19]? = some (PV.eq (.bool true)) := by rw [hΦ]; rfl
      have ph20 : Φs[20]? = some (PV.eq (.bool true)) := by rw [hΦ]; rfl
      have ph21 : Φs[21]? = some (PV.eq (.bool true)) := by rw [hΦ]; rfl
      have ph22 : Φs[22]? = some (PV.eq (.bool true)) := by rw [hΦ]; rfl
      have ph23 : Φs[23]? = some (PV.eq (.bool true)) := by rw [hΦ]; rfl
      have ph24 : Φs[24]? = some (PV.eq (.bool true)) := by rw [hΦ]; rfl
      clear hΦ
      refine wp_region_rel 25 46 Φs (by kernel_rfl) rfl rfl (by kernel_rfl) ?_ ?_
      · simp only [List.take_succ_cons, List.take_zero, stepsR]
        refine ⟨?_, ?_, ?_, ?_, ?_, ?_, ?_, ?_, ?_, ?_, ?_, ?_, ?_, ?_, ?_, ?_, ?_, ?_, ?_, ?_, ?_, ?_, ?_, ?_, ?_, trivial⟩
        · intro vs w' hE hp
          simp only [Nat.reduceAdd, Act.put, List.setIfInBounds_toArray, List.set_cons_zero, List.set_cons_succ]
          refine ifW_pos (by rfl) ?_
          refine wp_hideK (fun K' hK => ?_)
          go_wp2_with fail
          exact ⟨rfl, Below.refl _ _, (phi_iff ph0).2 rfl⟩
        · intro vs w' hE hp
          simp only [Nat.reduceAdd, Act.put, List.setIfInBounds_toArray, List.set_cons_zero, List.set_cons_succ]
          refine ifW_pos (by rfl) ?_
          refine wp_hideK (fun K' hK => ?_)
          go_wp2_with fail
          exact ⟨rfl, Below.refl _ _, (phi_iff ph1).2 rfl⟩
        · intro vs w' hE hp
          have p0_2 : vs 0 = (.bool true) := (phi_iff ph0).1 (hp 0 rfl)
          have p1_2 : vs 1 = (.bool true) := (phi_iff ph1).1 (hp 1 rfl)
          simp only [Nat.reduceAdd, Act.put, List.setIfInBounds_toArray, List.set_cons_zero, List.set_cons_succ, p0_2, p1_2]
          refine ifW_pos (by rfl) ?_
          refine wp_hideK (fun K' hK => ?_)
          go_wp2_with fail
          exact ⟨rfl, Below.refl _ _, (phi_iff ph2).2 rfl⟩
        · intro vs w' hE hp
          have p2_3 : vs 2 = (.bool true) := (phi_iff ph2).1 (hp 2 rfl)
          simp only [Nat.reduceAdd, Act.put, List.setIfInBounds_toArray, List.set_cons_zero, List.set_cons_succ, p2_3]
          refine ifW_pos (by rfl) ?_
          refine wp_hideK (fun K' hK => ?_)
          go_wp2_with fail
          exact ⟨rfl, Below.refl _ _, (phi_iff ph3).2 rfl⟩
        · intro vs w' hE hp
          have p3_4 : vs 3 = (.bool true) := (phi_iff ph3).1 (hp 3 rfl)
          simp only [Nat.reduceAdd, Act.put, List.setIfInBounds_toArray, List.set_cons_zero, List.set_cons_succ, p3_4]
          refine ifW_pos (by rfl) ?_
          refine wp_hideK (fun K' hK => ?_)
          go_wp2_with fail
          exact ⟨rfl, Below.refl _ _, (phi_iff ph4).2 rfl⟩
        · intro vs w' hE hp
          have p4_5 : vs 4 = (.bool true) := (phi_iff ph4).1 (hp 4 rfl)
          have p3_5 : vs 3 = (.bool true) := (phi_iff ph3).1 (hp 3 rfl)
          simp only [Nat.reduceAdd, Act.put, List.setIfInBounds_toArray, List.set_cons_zero, List.set_cons_succ, p4_5, p3_5]
          refine ifW_pos (by rfl) ?_
          refine wp_hideK (fun K' hK => ?_)
          go_wp2_with fail
          exact ⟨rfl, Below.refl _ _, (phi_iff ph5).2 rfl⟩
        · intro vs w' hE hp
          have p5_6 : vs 5 = (.bool false) := (phi_iff ph5).1 (hp 5 rfl)
          have p3_6 : vs 3 = (.bool true) := (phi_iff ph3).1 (hp 3 rfl)
          simp only [Nat.reduceAdd, Act.put, List.setIfInBounds_toArray, List.set_cons_zero, List.set_cons_succ, p5_6, p3_6]
          refine ifW_pos (by rfl) ?_
          refine wp_hideK (fun K' hK => ?_)
          go_wp2_with fail
          exact ⟨rfl, Below.refl _ _, (phi_iff ph6).2 rfl⟩
        · intro vs w' hE hp
          have p6_7 : vs 6 = (.bool false) := (phi_iff ph6).1 (hp 6 rfl)
          simp only [Nat.reduceAdd, Act.put, List.setIfInBounds_toArray, List.set_cons_zero, List.set_cons_succ, p6_7]
          refine ifW_neg (by rfl) ?_
          exact (phi_iff ph7).2 rfl
        · intro vs w' hE hp
          have p7_8 : vs 7 = undef := (phi_iff ph7).1 (hp 7 rfl)
          have p6_8 : vs 6 = (.bool false) := (phi_iff ph6).1 (hp 6 rfl)
          simp only [Nat.reduceAdd, Act.put, List.setIfInBounds_toArray, List.set_cons_zero, List.set_cons_succ, p7_8, p6_8]
          refine ifW_neg (by rfl) ?_
          exact (phi_iff ph8).2 rfl
        · intro vs w' hE hp
          have p6_9 : vs 6 = (.bool false) := (phi_iff ph6).1 (hp 6 rfl)
          have p8_9 : vs 8 = undef := (phi_iff ph8).1 (hp 8 rfl)
          have p3_9 : vs 3 = (.bool true) := (phi_iff ph3).1 (hp 3 rfl)
          simp only [Nat.reduceAdd, Act.put, List.setIfInBounds_toArray, List.set_cons_zero, List.set_cons_succ, p6_9, p8_9, p3_9]
          refine ifW_pos (by rfl) ?_
          refine wp_hideK (fun K' hK => ?_)
          go_wp2_with fail
          exact ⟨rfl, Below.refl _ _, (phi_iff ph9).2 rfl⟩
        · intro vs w' hE hp
          have p9_10 : vs 9 = (.bool false) := (phi_iff ph9).1 (hp 9 rfl)
          have p3_10 : vs 3 = (.bool true) := (phi_iff ph3).1 (hp 3 rfl)
          simp only [Nat.reduceAdd, Act.put, List.setIfInBounds_toArray, List.set_cons_zero, List.set_cons_succ, p9_10, p3_10]
          refine ifW_pos (by rfl) ?_
          refine wp_hideK (fun K' hK => ?_)
          go_wp2_with fail
          exact ⟨rfl, Below.refl _ _, (phi_iff ph10).2 rfl⟩
        · intro vs w' hE hp
          have p10_11 : vs 10 = (.bool false) := (phi_iff ph10).1 (hp 10 rfl)
          simp only [Nat.reduceAdd, Act.put, List.setIfInBounds_toArray, List.set_cons_zero, List.set_cons_succ, p10_11]
          refine ifW_pos (by rfl) ?_
          refine wp_hideK (fun K' hK => ?_)
          go_wp2_with fail
          exact ⟨rfl, Below.refl _ _, (phi_iff ph11).2 rfl⟩
        · intro vs w' hE hp
          have p11_12 : vs 11 = (.bool true) := (phi_iff ph11).1 (hp 11 rfl)
          have p10_12 : vs 10 = (.bool false) := (phi_iff ph10).1 (hp 10 rfl)
          simp only [Nat.reduceAdd, Act.put, List.setIfInBounds_toArray, List.set_cons_zero, List.set_cons_succ, p11_12, p10_12]
          refine ifW_pos (by rfl) ?_
          refine wp_hideK (fun K' hK => ?_)
          go_wp2_with fail
          exact ⟨rfl, Below.refl _ _, (phi_iff ph12).2 rfl⟩
        · intro vs w' hE hp
          have p12_13 : vs 12 = (.bool true) := (phi_iff ph12).1 (hp 12 rfl)
          simp only [Nat.reduceAdd, Act.put, List.setIfInBounds_toArray, List.set_cons_zero, List.set_cons_succ, p12_13]
          refine ifW_pos (by rfl) ?_
          refine wp_hideK (fun K' hK => ?_)
          go_wp2_with fail
          exact ⟨rfl, Below.refl _ _, (phi_iff ph13).2 rfl⟩
        · intro vs w' hE hp
          have p13_14 : vs 13 = (.int .i64 z10) := (phi_iff ph13).1 (hp 13 rfl)
          have p12_14 : vs 12 = (.bool true) := (phi_iff ph12).1 (hp 12 rfl)
          simp only [Nat.reduceAdd, Act.put, List.setIfInBounds_toArray, List.set_cons_zero, List.set_cons_succ, p13_14, p12_14]
          refine ifW_pos (by rfl) ?_
          refine wp_hideK (fun K' hK => ?_)
          go_wp2_with fail
          refine (rOf z10 _ (by omega) (by omega)).mono ?_
          rintro e w2 ⟨o36, n36, c36, r36, rfl, h36, hb⟩
          go_wp2_with fail
          exact ⟨rfl, hb, (phi_iff ph14).2 ⟨_, _, _, _, rfl, h36.mono (by decide)⟩⟩
        · intro vs w' hE hp
          have p12_15 : vs 12 = (.bool true) := (phi_iff ph12).1 (hp 12 rfl)
          simp only [Nat.reduceAdd, Act.put, List.setIfInBounds_toArray, List.set_cons_zero, List.set_cons_succ, p12_15]
          refine ifW_pos (by rfl) ?_
          obtain ⟨a0, a1, a2, a3⟩ := cells2 (hb27.ext (trans_drew hE))
          refine wp_hideK (fun K' hK => ?_)
          go_wp2_with fail
          exact ⟨rfl, Below.refl _ _, (phi_iff ph15).2 rfl⟩
        · intro vs w' hE hp
          obtain ⟨o14_16, n14_16, c14_16, r14_16, p14_16, q14_16⟩ : ∃ o n c r, vs 14 = .agg #[.slice o n c, .bool r] ∧ Rn 64 w' o n c r z10 := (phi_iff ph14).1 (hp 14 rfl)
          have p15_16 : vs 15 = (.agg #[(.slice p10 q10 d10), (.bool r10)]) := (phi_iff ph15).1 (hp 15 rfl)
          have p12_16 : vs 12 = (.bool true) := (phi_iff ph12).1 (hp 12 rfl)
          simp only [Nat.reduceAdd, Act.put, List.setIfInBounds_toArray, List.set_cons_zero, List.set_cons_succ, p14_16, p15_16, p12_16]
          refine ifW_pos (by rfl) ?_
          have k10 := k10.ext (trans_drew hE)
          refine wp_hideK (fun K' hK => ?_)
          go_wp2_with fail
          refine (rCmp (v := 0) q14_16 k10 (cmpZ_same _)).mono ?_
          rintro e w2 ⟨rfl, hb⟩
          go_wp2_with fail
          exact ⟨rfl, hb, (phi_iff ph16).2 rfl⟩
        · intro vs w' hE hp
          have p16_17 : vs 16 = (.int .i64 0) := (phi_iff ph16).1 (hp 16 rfl)
          have p12_17 : vs 12 = (.bool true) := (phi_iff ph12).1 (hp 12 rfl)
          simp only [Nat.reduceAdd, Act.put, List.setIfInBounds_toArray, List.set_cons_zero, List.set_cons_succ, p16_17, p12_17]
          refine ifW_pos (by rfl) ?_
          refine wp_hideK (fun K' hK => ?_)
          go_wp2_with fail
          exact ⟨rfl, Below.refl _ _, (phi_iff ph17).2 rfl⟩
        · intro vs w' hE hp
          have p12_18 : vs 12 = (.bool true) := (phi_iff ph12).1 (hp 12 rfl)
          have p17_18 : vs 17 = (.bool true) := (phi_iff ph17).1 (hp 17 rfl)
          have p10_18 : vs 10 = (.bool false) := (phi_iff ph10).1 (hp 10 rfl)
          simp only [Nat.reduceAdd, Act.put, List.setIfInBounds_toArray, List.set_cons_zero, List.set_cons_succ, p12_18, p17_18, p10_18]
          refine ifW_pos (by rfl) ?_
          refine wp_hideK (fun K' hK => ?_)
          go_wp2_with fail
          exact ⟨rfl, Below.refl _ _, (phi_iff ph18).2 rfl⟩
        · intro vs w' hE hp
          have p10_19 : vs 10 = (.bool false) := (phi_iff ph10).1 (hp 10 rfl)
          have p18_19 : vs 18 = (.bool true) := (phi_iff ph18).1 (hp 18 rfl)
          have p3_19 : vs 3 = (.bool true) := (phi_iff ph3).1 (hp 3 rfl)
          simp only [Nat.reduceAdd, Act.put, List.setIfInBounds_toArray, List.set_cons_zero, List.set_cons_succ, p10_19, p18_19, p3_19]
          refine ifW_pos (by rfl) ?_
          refine wp_hideK (fun K' hK => ?_)
          go_wp2_with fail
          exact ⟨rfl, Below.refl _ _, (phi_iff ph19).2 rfl⟩
        · intro vs w' hE hp
          have p3_20 : vs 3 = (.bool true) := (phi_iff ph3).1 (hp 3 rfl)
          have p19_20 : vs 19 = (.bool true) := (phi_iff ph19).1 (hp 19 rfl)
          simp only [Nat.reduceAdd, Act.put, List.setIfInBounds_toArray, List.set_cons_zero, List.set_cons_succ, p3_20, p19_20]
          refine ifW_pos (by rfl) ?_
          refine wp_hideK (fun K' hK => ?_)
          go_wp2_with fail
          exact ⟨rfl, Below.refl _ _, (phi_iff ph20).2 rfl⟩
        · intro vs w' hE hp
          have p20_21 : vs 20 = (.bool true) := (phi_iff ph20).1 (hp 20 rfl)
          simp only [Nat.reduceAdd, Act.put, List.setIfInBounds_toArray, List.set_cons_zero, List.set_cons_succ, p20_21]
          refine ifW_pos (by rfl) ?_
          refine wp_hideK (fun K' hK => ?_)
          go_wp2_with fail
          exact ⟨rfl, Below.refl _ _, (phi_iff ph21).2 rfl⟩
        · intro vs w' hE hp
          have p21_22 : vs 21 = (.bool true) := (phi_iff ph21).1 (hp 21 rfl)
          simp only [Nat.reduceAdd, Act.put, List.setIfInBounds_toArray, List.set_cons_zero, List.set_cons_succ, p21_22]
          refine ifW_pos (by rfl) ?_
          refine wp_hideK (fun K' hK => ?_)
          go_wp2_with fail
          refine (lwakes _).mono ?_
          rintro e w2 ⟨rfl, hb⟩
          go_wp2_with fail
          exact ⟨rfl, hb, (phi_iff ph22).2 rfl⟩
        · intro vs w' hE hp
          have p21_23 : vs 21 = (.bool true) := (phi_iff ph21).1 (hp 21 rfl)
          have p22_23 : vs 22 = (.bool true) := (phi_iff ph22).1 (hp 22 rfl)
          simp only [Nat.reduceAdd, Act.put, List.setIfInBounds_toArray, List.set_cons_zero, List.set_cons_succ, p21_23, p22_23]
          refine ifW_pos (by rfl) ?_
          refine wp_hideK (fun K' hK => ?_)
          go_wp2_with fail
          exact ⟨rfl, Below.refl _ _, (phi_iff ph23).2 rfl⟩
        · intro vs w' hE hp
          have p23_24 : vs 23 = (.bool true) := (phi_iff ph23).1 (hp 23 rfl)
          simp only [Nat.reduceAdd, Act.put, List.setIfInBounds_toArray, List.set_cons_zero, List.set_cons_succ, p23_24]
          refine ifW_pos (by rfl) ?_
          refine wp_hideK (fun K' hK => ?_)
          go_wp2_with fail
          exact ⟨rfl, Below.refl _ _, (phi_iff ph24).2 rfl⟩
      · intro vs w37 hE hphi
        have p24e : vs 24 = (.bool true) := (phi_iff ph24).1 (hphi 24 (by decide))
        replace h0 := h0.ext (trans_drew hE)
        replace h10 := h10.ext (trans_drew hE)
        replace k10 := k10.ext (trans_drew hE)
        replace hb21 := hb21.ext (trans_drew hE)
        replace hb27 := hb27.ext (trans_drew hE)
        replace hB := ext_trans hB (trans_drew hE)
        clear hphi hE ph0 ph1 ph2 ph3 ph4 ph5 ph6 ph7 ph8 ph9 ph10 ph11 ph12 ph13 ph14 ph15 ph16 ph17 ph18 ph19 ph20 ph21 ph22 ph23 ph24
        simp only [putsR, List.take_succ_cons, List.take_zero, List.drop_succ_cons, List.drop_zero, List.drop_nil, Nat.reduceAdd, Act.put, List.setIfInBounds_toArray, List.set_cons_zero, List.set_cons_succ, p24e]
        clear p24e
        go_wp2
        go_ret
        exact ⟨rfl, hB⟩
  · obtain ⟨v, hv⟩ : ∃ v, cmpZ (Int.natAbs z10 : Int) ((2 ^ 62 : Nat) : Int) = v := ⟨_, rfl⟩
    have hv0 : decide (v < 0) = false := by rw [decide_eq_false_iff_not, ← hv]; have := cmp_no hz; omega
    have HV := hid hv; have HZ := hid hz; clear hz hv
    obtain ⟨a13, a14, f15, f16⟩ := cells2 hb5
    have l17 := hb5.lt
    go_wp2_with fail
    clear a13 a14 f15 f16 l17
    obtain ⟨w18, hw19, hu20, hb21, sz22⟩ := mk_set2 hb5 (.bool s0) (.slice a0 m10 c0) (N := w11.heap.size) rfl
    rw [← hw19]
    replace h0 := h0.upd hb5 (noInt_zz _ _ _ _) hu20
    replace h10 := h10.upd hb5 (noInt_zz _ _ _ _) hu20
    replace k10 := k10.upd hb5 (noInt_zz _ _ _ _) hu20
    replace hB := below_upd hB G9.out hb5.lt hu20
    clear hw19 hu20 hb5
    obtain ⟨w23, g24, hw25, hg26, hb27, al28, ge29, sz30⟩ := mk_alloc w18 [(.slice p10 q10 d10), (.bool r10)] 28 (N := w11.heap.size) sz22
    rw [← hw25]
    have Ng2_g24 := hb21.ne ge29
    have G31 := below_ge hB ge29
    replace hB := ext_trans hB al28
    replace h0 := h0.ext al28
    replace h10 := h10.ext al28
    replace k10 := k10.ext al28
    replace hb21 := hb21.ext al28
    clear hw25 al28 ge29
    rw [← hg26]
    clear hg26 sz22 sz30
    refine (wSmallNot h10 (HZ.out)).mono ?_
    rintro e w32 ⟨rfl, hb33⟩
    replace h0 := h0.ext hb33
    replace h10 := h10.ext hb33
    replace k10 := k10.ext hb33
    replace hb21 := hb21.ext hb33
    replace hb27 := hb27.ext hb33
    replace hB := ext_trans hB hb33
    clear hb33
    go_wp2_with fail
    obtain ⟨Φs, hΦ⟩ : ∃ Φ : List PV, Φ = [PV.eq (.pointer (some ⟨g24, 0, none⟩)), PV.eq (.slice p10 q10 d10), PV.dg 63 (2 ^ 62), PV.eq (.int .i64 v), PV.eq (.bool false), PV.eq (.bool false)] := ⟨_, rfl⟩
    have ph0 : Φs[0]? = some (PV.eq (.pointer (some ⟨g24, 0, none⟩))) := by rw [hΦ]; rfl
    have ph1 : Φs[1]? = some (PV.eq (.slice p10 q10 d10)) := by rw [hΦ]; rfl
    have ph2 : Φs[2]? = some (PV.dg 63 (2 ^ 62)) := by rw [hΦ]; rfl
    have ph3 : Φs[3]? = some (PV.eq (.int .i64 v)) := by rw [hΦ]; rfl
    have ph4 : Φs[4]? = some (PV.eq (.bool false)) := by rw [hΦ]; rfl
    have ph5 : Φs[5]? = some (PV.eq (.bool false)) := by rw [hΦ]; rfl
    clear hΦ
    refine wp_region_rel 6 46 Φs (by kernel_rfl) rfl rfl (by kernel_rfl) ?_ ?_
    · simp only [List.take_succ_cons, List.take_zero, stepsR]
      refine ⟨?_, ?_, ?_, ?_, ?_, ?_, trivial⟩
      · intro vs w' hE hp
        simp only [Nat.reduceAdd, Act.put, List.setIfInBounds_toArray, List.set_cons_zero, List.set_cons_succ]
        refine ifW_pos (by rfl) ?_
        refine wp_hideK (fun K' hK => ?_)
        go_wp2_with fail
        exact ⟨rfl, Below.refl _ _, (phi_iff ph0).2 rfl⟩
      · intro vs w' hE hp
        have p0_1 : vs 0 = (.pointer (some ⟨g24, 0, none⟩)) := (phi_iff ph0).1 (hp 0 rfl)
        simp only [Nat.reduceAdd, Act.put, List.setIfInBounds_toArray, List.set_cons_zero, List.set_cons_succ, p0_1]
        refine ifW_pos (by rfl) ?_
        obtain ⟨a0, a1, a2, a3⟩ := cells2 (hb27.ext (trans_drew hE))
        refine wp_hideK (fun K' hK => ?_)
        go_wp2_with fail
        exact ⟨rfl, Below.refl _ _, (phi_iff ph1).2 rfl⟩
      · intro vs w' hE hp
        simp only [Nat.reduceAdd, Act.put, List.setIfInBounds_toArray, List.set_cons_zero, List.set_cons_succ]
        refine ifW_pos (by rfl) ?_
        refine wp_hideK (fun K' hK => ?_)
        go_wp2_with fail
        refine (nPow 62 _).mono ?_
        rintro e w2 ⟨o34, n34, c34, rfl, h34, hb⟩
        go_wp2_with fail
        exact ⟨rfl, hb, (phi_iff ph2).2 ⟨_, _, _, rfl, h34.mono (by decide)⟩⟩
      · intro vs w' hE hp
        have p1_3 : vs 1 = (.slice p10 q10 d10) := (phi_iff ph1).1 (hp 1 rfl)
        obtain ⟨o2_3, n2_3, c2_3, p2_3, q2_3⟩ : ∃ o n c, vs 2 = .slice o n c ∧ Dg 63 w' o n c (2 ^ 62) := (phi_iff ph2).1 (hp 2 rfl)
        simp only [Nat.reduceAdd, Act.put, List.setIfInBounds_toArray, List.set_cons_zero, List.set_cons_succ, p1_3, p2_3]
        refine ifW_pos (by rfl) ?_
        have k10 := k10.ext (trans_drew hE)
        refine wp_hideK (fun K' hK => ?_)
        go_wp2_with fail
        refine (nCmp (v := v) k10.dg q2_3 (HV.out)).mono ?_
        rintro e w2 ⟨rfl, hb⟩
        go_wp2_with fail
        exact ⟨rfl, hb, (phi_iff ph3).2 rfl⟩
      · intro vs w' hE hp
        have p3_4 : vs 3 = (.int .i64 v) := (phi_iff ph3).1 (hp 3 rfl)
        simp only [Nat.reduceAdd, Act.put, List.setIfInBounds_toArray, List.set_cons_zero, List.set_cons_succ, p3_4]
        refine ifW_pos (by rfl) ?_
        refine wp_hideK (fun K' hK => ?_)
        go_wp2_with fail
        exact ⟨rfl, Below.refl _ _, (phi_iff ph4).2 rfl⟩
      · intro vs w' hE hp
        have p4_5 : vs 4 = (.bool false) := (phi_iff ph4).1 (hp 4 rfl)
        simp only [Nat.reduceAdd, Act.put, List.setIfInBounds_toArray, List.set_cons_zero, List.set_cons_succ, p4_5]
        refine ifW_pos (by rfl) ?_
        refine wp_hideK (fun K' hK => ?_)
        go_wp2_with fail
        exact ⟨rfl, Below.refl _ _, (phi_iff ph5).2 rfl⟩
    · intro vs w35 hE hphi
      have p5e : vs 5 = (.bool false) := (phi_iff ph5).1 (hphi 5 (by decide))
      replace h0 := h0.ext (trans_drew hE)
      replace h10 := h10.ext (trans_drew hE)
      replace k10 := k10.ext (trans_drew hE)
      replace hb21 := hb21.ext (trans_drew hE)
      replace hb27 := hb27.ext (trans_drew hE)
      replace hB := ext_trans hB (trans_drew hE)
      clear hphi hE ph0 ph1 ph2 ph3 ph4 ph5
      simp only [putsR, List.take_succ_cons, List.take_zero, List.drop_succ_cons, List.drop_zero, List.drop_nil, Nat.reduceAdd, Act.put, List.setIfInBounds_toArray, List.set_cons_zero, List.set_cons_succ, p5e]
      clear p5e
      go_wp2_with fail
      obtain ⟨Φs, hΦ⟩ : ∃ Φ : List PV, Φ = [PV.eq (.bool false), PV.eq (.bool false), PV.eq (.bool true), PV.eq (.bool true), PV.eq (.bool false), PV.eq (.bool true), PV.eq (.bool true), PV.eq (.int .i64 0), PV.eq (.bool true), PV.eq (.bool true), PV.eq (.bool true), PV.eq undef, PV.eq undef, PV.eq undef, PV.eq undef, PV.eq undef, PV.eq undef, PV.eq undef, PV.eq undef, PV.eq (.bool true), PV.eq (.bool true), PV.eq (.bool true), PV.eq (.bool true), PV.eq (.bool true), PV.eq (.bool true)] := ⟨_, rfl⟩
      have ph0 : Φs[0]? = some (PV.eq (.bool false)) := by rw [hΦ]; rfl
      have ph1 : Φs[1]? = some (PV.eq (.bool false)) := by rw [hΦ]; rfl
      have ph2 : Φs[2]? = some (PV.eq (.bool true)) := by rw [hΦ]; rfl
      have ph3 : Φs[3]? = some (PV.eq (.bool true)) := by rw [hΦ]; rfl
      have ph4 : Φs[4]? = some (PV.eq (.bool false)) := by rw [hΦ]; rfl
      have ph5 : Φs[5]? = some (PV.eq (.bool true)) := by rw [hΦ]; rfl
      have ph6 : Φs[6]? = some (PV.eq (.bool true)) := by rw [hΦ]; rfl
      have ph7 : Φs[7]? = some (PV.eq (.int .i64 0)) := by rw [hΦ]; rfl
      have ph8 : Φs[8]? = some (PV.eq (.bool true)) := by rw [hΦ]; rfl
      have ph9 : Φs[9]? = some (PV.eq (.bool true)) := by rw [hΦ]; rfl
      have ph10 : Φs[10]? = some (PV.eq (.bool true)) := by rw [hΦ]; rfl
      have ph11 : Φs[11]? = some (PV.eq undef) := by rw [hΦ]; rfl
      have ph12 : Φs[12]? = some (PV.eq undef) := by rw [hΦ]; rfl
      have ph13 : Φs[13]? = some (PV.eq undef) := by rw [hΦ]; rfl
      have ph14 : Φs[14]? = some (PV.eq undef) := by rw [hΦ]; rfl
      have ph15 : Φs[15]? = some (PV.eq undef) := by rw [hΦ]; rfl
      have ph16 : Φs[16]? = some (PV.eq undef) := by rw [hΦ]; rfl
      have ph17 : Φs[17]? = some (PV.eq undef) := by rw [hΦ]; rfl
      have ph18 : Φs[18]? = some (PV.eq undef) := by rw [hΦ]; rfl
      have ph19 : Φs[19]? = some (PV.eq (.bool true)) := by rw [hΦ]; rfl
      have ph20 : Φs[20]? = some (PV.eq (.bool true)) := by rw [hΦ]; rfl
      have ph21 : Φs[21]? = some (PV.eq (.bool true)) := by rw [hΦ]; rfl
      have ph22 : Φs[22]? = some (PV.eq (.bool true)) := by rw [hΦ]; rfl
      have ph23 : Φs[23]? = some (PV.eq (.bool true)) := by rw [hΦ]; rfl
      have ph24 : Φs[24]? = some (PV.eq (.bool true)) := by rw [hΦ]; rfl
      clear hΦ
      refine wp_region_rel 25 46 Φs (by kernel_rfl) rfl rfl (by kernel_rfl) ?_ ?_
      · simp only [List.take_succ_cons, List.take_zero, stepsR]
        refine ⟨?_, ?_, ?_, ?_, ?_, ?_, ?_, ?_, ?_, ?_, ?_, ?_, ?_, ?_, ?_, ?_, ?_, ?_, ?_, ?_, ?_, ?_, ?_, ?_, ?_, trivial⟩
        · intro vs w' hE hp
          simp only [Nat.reduceAdd, Act.put, List.setIfInBounds_toArray, List.set_cons_zero, List.set_cons_succ]
          refine ifW_pos (by rfl) ?_
          refine wp_hideK (fun K' hK => ?_)
          go_wp2_with fail
          exact ⟨rfl, Below.refl _ _, (phi_iff ph0).2 rfl⟩
        · intro vs w' hE hp
          simp only [Nat.reduceAdd, Act.put, List.setIfInBounds_toArray, List.set_cons_zero, List.set_cons_succ]
          refine ifW_pos (by rfl) ?_
          refine wp_hideK (fun K' hK => ?_)
          go_wp2_with fail
          exact ⟨rfl, Below.refl _ _, (phi_iff ph1).2 rfl⟩
        · intro vs w' hE hp
          have p0_2 : vs 0 = (.bool false) := (phi_iff ph0).1 (hp 0 rfl)
          have p1_2 : vs 1 = (.bool false) := (phi_iff ph1).1 (hp 1 rfl)
          simp only [Nat.reduceAdd, Act.put, List.setIfInBounds_toArray, List.set_cons_zero, List.set_cons_succ, p0_2, p1_2]
          refine ifW_pos (by rfl) ?_
          refine wp_hideK (fun K' hK => ?_)
          go_wp2_with fail
          exact ⟨rfl, Below.refl _ _, (phi_iff ph2).2 rfl⟩
        · intro vs w' hE hp
          have p2_3 : vs 2 = (.bool true) := (phi_iff ph2).1 (hp 2 rfl)
          simp only [Nat.reduceAdd, Act.put, List.setIfInBounds_toArray, List.set_cons_zero, List.set_cons_succ, p2_3]
          refine ifW_pos (by rfl) ?_
          refine wp_hideK (fun K' hK => ?_)
          go_wp2_with fail
          exact ⟨rfl, Below.refl _ _, (phi_iff ph3).2 rfl⟩
        · intro vs w' hE hp
          have p3_4 : vs 3 = (.bool true) := (phi_iff ph3).1 (hp 3 rfl)
          simp only [Nat.reduceAdd, Act.put, List.setIfInBounds_toArray, List.set_cons_zero, List.set_cons_succ, p3_4]
          refine ifW_pos (by rfl) ?_
          refine wp_hideK (fun K' hK => ?_)
          go_wp2_with fail
          exact ⟨rfl, Below.refl _ _, (phi_iff ph4).2 rfl⟩
        · intro vs w' hE hp
          have p4_5 : vs 4 = (.bool false) := (phi_iff ph4).1 (hp 4 rfl)
          have p3_5 : vs 3 = (.bool true) := (phi_iff ph3).1 (hp 3 rfl)
          simp only [Nat.reduceAdd, Act.put, List.setIfInBounds_toArray, List.set_cons_zero, List.set_cons_succ, p4_5, p3_5]
          refine ifW_pos (by rfl) ?_
          refine wp_hideK (fun K' hK => ?_)
          go_wp2_with fail
          exact ⟨rfl, Below.refl _ _, (phi_iff ph5).2 rfl⟩
        · intro vs w' hE hp
          have p5_6 : vs 5 = (.bool true) := (phi_iff ph5).1 (hp 5 rfl)
          have p3_6 : vs 3 = (.bool true) := (phi_iff ph3).1 (hp 3 rfl)
          simp only [Nat.reduceAdd, Act.put, List.setIfInBounds_toArray, List.set_cons_zero, List.set_cons_succ, p5_6, p3_6]
          refine ifW_pos (by rfl) ?_
          refine wp_hideK (fun K' hK => ?_)
          go_wp2_with fail
          exact ⟨rfl, Below.refl _ _, (phi_iff ph6).2 rfl⟩
        · intro vs w' hE hp
          have p6_7 : vs 6 = (.bool true) := (phi_iff ph6).1 (hp 6 rfl)
          simp only [Nat.reduceAdd, Act.put, List.setIfInBounds_toArray, List.set_cons_zero, List.set_cons_succ, p6_7]
          refine ifW_pos (by rfl) ?_
          refine wp_hideK (fun K' hK => ?_)
          go_wp2_with fail
          exact ⟨rfl, Below.refl _ _, (phi_iff ph7).2 rfl⟩
        · intro vs w' hE hp
          have p7_8 : vs 7 = (.int .i64 0) := (phi_iff ph7).1 (hp 7 rfl)
          have p6_8 : vs 6 = (.bool true) := (phi_iff ph6).1 (hp 6 rfl)
          simp only [Nat.reduceAdd, Act.put, List.setIfInBounds_toArray, List.set_cons_zero, List.set_cons_succ, p7_8, p6_8]
          refine ifW_pos (by rfl) ?_
          refine wp_hideK (fun K' hK => ?_)
          go_wp2_with fail
          exact ⟨rfl, Below.refl _ _, (phi_iff ph8).2 rfl⟩
        · intro vs w' hE hp
          have p6_9 : vs 6 = (.bool true) := (phi_iff ph6).1 (hp 6 rfl)
          have p8_9 : vs 8 = (.bool true) := (phi_iff ph8).1 (hp 8 rfl)
          have p3_9 : vs 3 = (.bool true) := (phi_iff ph3).1 (hp 3 rfl)
          simp only [Nat.reduceAdd, Act.put, List.setIfInBounds_toArray, List.set_cons_zero, List.set_cons_succ, p6_9, p8_9, p3_9]
          refine ifW_pos (by rfl) ?_
          refine wp_hideK (fun K' hK => ?_)
          go_wp2_with fail
          exact ⟨rfl, Below.refl _ _, (phi_iff ph9).2 rfl⟩
        · intro vs w' hE hp
          have p9_10 : vs 9 = (.bool true) := (phi_iff ph9).1 (hp 9 rfl)
          have p3_10 : vs 3 = (.bool true) := (phi_iff ph3).1 (hp 3 rfl)
          simp only [Nat.reduceAdd, Act.put, List.setIfInBounds_toArray, List.set_cons_zero, List.set_cons_succ, p9_10, p3_10]
          refine ifW_pos (by rfl) ?_
          refine wp_hideK (fun K' hK => ?_)
          go_wp2_with fail
          exact ⟨rfl, Below.refl _ _, (phi_iff ph10).2 rfl⟩
        · intro vs w' hE hp
          have p10_11 : vs 10 = (.bool true) := (phi_iff ph10).1 (hp 10 rfl)
          simp only [Nat.reduceAdd, Act.put, List.setIfInBounds_toArray, List.set_cons_zero, List.set_cons_succ, p10_11]
          refine ifW_neg (by rfl) ?_
          exact (phi_iff ph11).2 rfl
        · intro vs w' hE hp
          have p11_12 : vs 11 = undef := (phi_iff ph11).1 (hp 11 rfl)
          have p10_12 : vs 10 = (.bool true) := (phi_iff ph10).1 (hp 10 rfl)
          simp only [Nat.reduceAdd, Act.put, List.setIfInBounds_toArray, List.set_cons_zero, List.set_cons_succ, p11_12, p10_12]
          refine ifW_neg (by rfl) ?_
          exact (phi_iff ph12).2 rfl
        · intro vs w' hE hp
          have p12_13 : vs 12 = undef := (phi_iff ph12).1 (hp 12 rfl)
          simp only [Nat.reduceAdd, Act.put, List.setIfInBounds_toArray, List.set_cons_zero, List.set_cons_succ, p12_13]
          refine ifW_neg (by rfl) ?_
          exact (phi_iff ph13).2 rfl
        · intro vs w' hE hp
          have p13_14 : vs 13 = undef := (phi_iff ph13).1 (hp 13 rfl)
          have p12_14 : vs 12 = undef := (phi_iff ph12).1 (hp 12 rfl)
          simp only [Nat.reduceAdd, Act.put, List.setIfInBounds_toArray, List.set_cons_zero, List.set_cons_succ, p13_14, p12_14]
          refine ifW_neg (by rfl) ?_
          exact (phi_iff ph14).2 rfl
        · intro vs w' hE hp
          have p12_15 : vs 12 = undef := (phi_iff ph12).1 (hp 12 rfl)
          simp only [Nat.reduceAdd, Act.put, List.setIfInBounds_toArray, List.set_cons_zero, List.set_cons_succ, p12_15]
          refine ifW_neg (by rfl) ?_
          exact (phi_iff ph15).2 rfl
        · intro vs w' hE hp
          have p14_16 : vs 14 = undef := (phi_iff ph14).1 (hp 14 rfl)
          have p15_16 : vs 15 = undef := (phi_iff ph15).1 (hp 15 rfl)
          have p12_16 : vs 12 = undef := (phi_iff ph12).1 (hp 12 rfl)
          simp only [Nat.reduceAdd, Act.put, List.setIfInBounds_toArray, List.set_cons_zero, List.set_cons_succ, p14_16, p15_16, p12_16]
          refine ifW_neg (by rfl) ?_
          exact (phi_iff ph16).2 rfl
        · intro vs w' hE hp
          have p16_17 : vs 16 = undef := (phi_iff ph16).1 (hp 16 rfl)
          have p12_17 : vs 12 = undef := (phi_iff ph12).1 (hp 12 rfl)
          simp only [Nat.reduceAdd, Act.put, List.setIfInBounds_toArray, List.set_cons_zero, List.set_cons_succ, p16_17, p12_17]
          refine ifW_neg (by rfl) ?_
          exact (phi_iff ph17).2 rfl
        · intro vs w' hE hp
          have p12_18 : vs 12 = undef := (phi_iff ph12).1 (hp 12 rfl)
          have p17_18 : vs 17 = undef := (phi_iff ph17).1 (hp 17 rfl)
          have p10_18 : vs 10 = (.bool true) := (phi_iff ph10).1 (hp 10 rfl)
          simp only [Nat.reduceAdd, Act.put, List.setIfInBounds_toArray, List.set_cons_zero, List.set_cons_succ, p12_18, p17_18, p10_18]
          refine ifW_neg (by rfl) ?_
          exact (phi_iff ph18).2 rfl
        · intro vs w' hE hp
          have p10_19 : vs 10 = (.bool true) := (phi_iff ph10).1 (hp 10 rfl)
          have p18_19 : vs 18 = undef := (phi_iff ph18).1 (hp 18 rfl)
          have p3_19 : vs 3 = (.bool true) := (phi_iff ph3).1 (hp 3 rfl)
          simp only [Nat.reduceAdd, Act.put, List.setIfInBounds_toArray, List.set_cons_zero, List.set_cons_succ, p10_19, p18_19, p3_19]
          refine ifW_pos (by rfl) ?_
          refine wp_hideK (fun K' hK => ?_)
          go_wp2_with fail
          exact ⟨rfl, Below.refl _ _, (phi_iff ph19).2 rfl⟩
        · intro vs w' hE hp
          have p3_20 : vs 3 = (.bool true) := (phi_iff ph3).1 (hp 3 rfl)
          have p19_20 : vs 19 = (.bool true) := (phi_iff ph19).1 (hp 19 rfl)
          simp only [Nat.reduceAdd, Act.put, List.setIfInBounds_toArray, List.set_cons_zero, List.set_cons_succ, p3_20, p19_20]
          refine ifW_pos (by rfl) ?_
          refine wp_hideK (fun K' hK => ?_)
          go_wp2_with fail
          exact ⟨rfl, Below.refl _ _, (phi_iff ph20).2 rfl⟩
        · intro vs w' hE hp
          have p20_21 : vs 20 = (.bool true) := (phi_iff ph20).1 (hp 20 rfl)
          simp only [Nat.reduceAdd, Act.put, List.setIfInBounds_toArray, List.set_cons_zero, List.set_cons_succ, p20_21]
          refine ifW_pos (by rfl) ?_
          refine wp_hideK (fun K' hK => ?_)
          go_wp2_with fail
          exact ⟨rfl, Below.refl _ _, (phi_iff ph21).2 rfl⟩
        · intro vs w' hE hp
          have p21_22 : vs 21 = (.bool true) := (phi_iff ph21).1 (hp 21 rfl)
          simp only [Nat.reduceAdd, Act.put, List.setIfInBounds_toArray, List.set_cons_zero, List.set_cons_succ, p21_22]
          refine ifW_pos (by rfl) ?_
          refine wp_hideK (fun K' hK => ?_)
          go_wp2_with fail
          refine (lwakes _).mono ?_
          rintro e w2 ⟨rfl, hb⟩
          go_wp2_with fail
          exact ⟨rfl, hb, (phi_iff ph22).2 rfl⟩
        · intro vs w' hE hp
          have p21_23 : vs 21 = (.bool true) := (phi_iff ph21).1 (hp 21 rfl)
          have p22_23 : vs 22 = (.bool true) := (phi_iff ph22).1 (hp 22 rfl)
          simp only [Nat.reduceAdd, Act.put, List.setIfInBounds_toArray, List.set_cons_zero, List.set_cons_succ, p21_23, p22_23]
          refine ifW_pos (by rfl) ?_
          refine wp_hideK (fun K' hK => ?_)
          go_wp2_with fail
          exact ⟨rfl, Below.refl _ _, (phi_iff ph23).2 rfl⟩
        · intro vs w' hE hp
          have p23_24 : vs 23 = (.bool true) := (phi_iff ph23).1 (hp 23 rfl)
          simp only [Nat.reduceAdd, Act.put, List.setIfInBounds_toArray, List.set_cons_zero, List.set_cons_succ, p23_24]
          refine ifW_pos (by rfl) ?_
          refine wp_hideK (fun K' hK => ?_)
          go_wp2_with fail
          exact ⟨rfl, Below.refl _ _, (phi_iff ph24).2 rfl⟩
      · intro vs w36 hE hphi
        have p24e : vs 24 = (.bool true) := (phi_iff ph24).1 (hphi 24 (by decide))
        replace h0 := h0.ext (trans_drew hE)
        replace h10 := h10.ext (trans_drew hE)
        replace k10 := k10.ext (trans_drew hE)
        replace hb21 := hb21.ext (trans_drew hE)
        replace hb27 := hb27.ext (trans_drew hE)
        replace hB := ext_trans hB (trans_drew hE)
        clear hphi hE ph0 ph1 ph2 ph3 ph4 ph5 ph6 ph7 ph8 ph9 ph10 ph11 ph12 ph13 ph14 ph15 ph16 ph17 ph18 ph19 ph20 ph21 ph22 ph23 ph24
        simp only [putsR, List.take_succ_cons, List.take_zero, List.drop_succ_cons, List.drop_zero, List.drop_nil, Nat.reduceAdd, Act.put, List.setIfInBounds_toArray, List.set_cons_zero, List.set_cons_succ, p24e]
        clear p24e
        go_wp2
        go_ret
        exact ⟨rfl, hB⟩

end Go.Proofs.Ytkcagkcphobmfaa
