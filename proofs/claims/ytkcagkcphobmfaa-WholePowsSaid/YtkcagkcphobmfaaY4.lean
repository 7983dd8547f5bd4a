/-
  THE WALK OF THE STATEMENT: powers.
-/
import Derived.Test.YtkcagkcphobmfaaZo
set_option linter.unusedVariables false
set_option linter.unusedSimpArgs false
namespace Go.Proofs.Ytkcagkcphobmfaa
open Go.RowKit

theorem pow_bound {e : Nat} (h : e ≤ 256) : 64 + e * 6 ≤ 1600 := by omega

set_option maxRecDepth 100000 in
set_option maxHeartbeats 16000000 in
theorem wholePows_walk {w : World} {s0 : Bool} {a0 : Option Addr} {n0 c0 : Nat} {x0 : Int} (h0 : Za 9223372036854775807 w s0 a0 n0 c0 x0) {v : Int} (hv : -9223372036854775808 ≤ v ∧ v ≤ 9223372036854775807) :
    Calls Try.prog 7 #[.agg #[.bool s0, .slice a0 n0 c0], .int .i64 v] w (RetV (.bool true) w) := by
  obtain ⟨hv1, hv2⟩ := hv
  go_enter Try.func7, Try.ntmps7
  have hB := Below.refl w.heap.size w
  go_wp2_with fail
  obtain ⟨w1, g2, hw3, hg4, hb5, al6, ge7, sz8⟩ := mk_alloc w [(.bool s0), (.slice a0 n0 c0)] 24 (N := w.heap.size) rfl
  rw [← hw3]
  have G9 := below_ge hB ge7
  replace hB := ext_trans hB al6
  replace h0 := h0.ext al6
  clear hw3 al6 ge7
  rw [← hg4]
  clear hg4 sz8
  refine (lof 2 h0).mono ?_
  rintro e w11 ⟨m10, z10, p10, q10, d10, r10, rfl, h10, k10, hb12⟩
  replace h0 := h0.ext hb12
  replace hb5 := hb5.ext hb12
  replace hB := ext_trans hB hb12
  clear hb12
  obtain ⟨a13, a14, f15, f16⟩ := cells2 hb5
  have l17 := hb5.lt
  go_upto_region 2 with (fail)
  clear a13 a14 f15 f16 l17
  obtain ⟨w18, hw19, hu20, hb21, sz22⟩ := mk_set2 hb5 (.bool s0) (.slice a0 m10 c0) (N := w11.heap.size) rfl
  rw [← hw19]
  replace h0 := h0.upd hb5 (noInt_zz _ _ _ _) hu20
  replace h10 := h10.upd hb5 (noInt_zz _ _ _ _) hu20
  replace k10 := k10.upd hb5 (noInt_zz _ _ _ _) hu20
  replace hB := below_upd hB G9.out hb5.lt hu20
  clear hw19 hu20 hb5
  obtain ⟨w23, g24, hw25, hg26, hb27, al28, ge29, sz30⟩ := mk_alloc w18 [(.slice p10 q10 d10), (.bool r10)] 28 (N := w11.heap.size) sz22
  rw [← hw25]
  have Ng2_g24 := hb21.ne ge29
  have G31 := below_ge hB ge29
  replace hB := ext_trans hB al28
  replace h0 := h0.ext al28
  replace h10 := h10.ext al28
  replace k10 := k10.ext al28
  replace hb21 := hb21.ext al28
  clear hw25 al28 ge29
  rw [← hg26]
  clear hg26 sz22 sz30
  go_cut [6] (fun s6 wx => ∃ e0 : Nat, s6 = .int .i64 (e0 : Int) ∧ max 0 (min v 256) = (e0 : Int) ∧ e0 ≤ 256 ∧ wx = w23)
  case first =>
    go_wp2_with fail
    all_goals go_meet
    all_goals exact ⟨(max 0 (min v 256)).toNat, by congr 1; omega, by omega, by omega, rfl⟩
  case rest =>
    obtain ⟨e0, rfl, he0, he0b, rfl⟩ := hcut
    have HE0 := hid he0; clear he0
    by_cases hq : 1 < q10
    · by_cases h40 : 40 < e0
      · skip
        have dq1 : decide ((1 : Int) < (q10 : Int)) = true := by rw [decide_eq_true_eq]; omega
        have dq2 : decide (1 < q10) = true := by rw [decide_eq_true_eq]; omega
        have de1 : decide ((40 : Int) < (e0 : Int)) = true := by rw [decide_eq_true_eq]; omega
        have de2 : decide (40 < e0) = true := by rw [decide_eq_true_eq]; omega
        obtain ⟨e, hee⟩ : ∃ e, e = e0 % 40 := ⟨_, rfl⟩
        have heb : e ≤ 256 := by omega
        have HEE := hid hee; clear hee
        have HVE : Hid (max 0 (min (e : Int) 256) = (e : Int)) := hid (by omega)
        clear hq h40
        obtain ⟨a32, a33, f34, f35⟩ := cells2 hb27
        have l36 := hb27.lt
        go_wp2_with fail
        clear a32 a33 f34 f35 l36
        refine (within_any (e0 : Int) 40 _ (by omega) (by omega) (by omega) (by omega)).mono ?_
        rintro e _ ⟨rfl, rfl⟩
        rw [show (e0 : Int) % ((40 : Nat) : Int) = ((e0 % 40 : Nat) : Int) by omega, ← HEE.out]
        go_wp2_with fail
        refine (rOf 1 _ (by omega) (by omega)).mono ?_
        rintro e w40 ⟨o39, n39, c39, r39, rfl, h39, hb41⟩
        replace h0 := h0.ext hb41
        replace h10 := h10.ext hb41
        replace k10 := k10.ext hb41
        replace hb21 := hb21.ext hb41
        replace hb27 := hb27.ext hb41
        replace hB := ext_trans hB hb41
        clear hb41
        go_wp2_with fail
        obtain ⟨w42, g43, hw44, hg45, hb46, al47, ge48, sz49⟩ := mk_alloc w40 [(.slice o39 n39 c39), (.bool r39)] 28 (N := w40.heap.size) rfl
        rw [← hw44]
        have Ng2_g43 := hb21.ne ge48
        have Ng24_g43 := hb27.ne ge48
        have G50 := below_ge hB ge48
        replace hB := ext_trans hB al47
        replace h0 := h0.ext al47
        replace h10 := h10.ext al47
        replace k10 := k10.ext al47
        replace h39 := h39.ext al47
        replace hb21 := hb21.ext al47
        replace hb27 := hb27.ext al47
        clear hw44 al47 ge48
        rw [← hg45]
        clear hg45 sz49
        have g1 : Rn (64 + 0 * 6) w42 o39 n39 c39 r39 (z10 ^ 0) := by rw [Int.pow_zero, Nat.zero_mul, Nat.add_zero]; exact h39
        clear h39
        go_loopw [8] (fun s8 wr => ∃ (k : Nat) (r : Bool) (o : Option Addr) (m d : Nat), s8 = .int .i64 (k : Int) ∧ k ≤ e ∧ Blk wr g2 24 [(.bool s0), (.slice a0 m10 c0)] ∧ Blk wr g24 28 [(.slice p10 q10 d10), (.bool r10)] ∧ Blk wr g43 28 [.slice o m d, .bool r] ∧
          Za 2 wr s0 a0 m10 c0 z10 ∧ Rn (3 * 2) wr p10 q10 d10 r10 z10 ∧ Rn (64 + k * 6) wr o m d r (z10 ^ k) ∧ Below w.heap.size w wr) (fun s8 _ => e - (intOf s8).toNat)
        case atStart => exact ⟨0, _, _, _, _, rfl, by omega, hb21, hb27, hb46, h10, k10, g1, hB⟩
        case round =>
          clear h0 h10 k10 g1 hB hb21 hb27 hb46
          obtain ⟨k, r, o, m, d, rfl, hk, hb21, hb27, hb46, h10, k10, g1, hB⟩ := hrel
          by_cases hke : k < e
          · skip
            have hkd : decide ((k : Int) < (e : Int)) = true := by rw [decide_eq_true_eq]; omega
            have hkn : decide (k < e) = true := decide_eq_true hke
            obtain ⟨a51, a52, f53, f54⟩ := cells2 hb46
            have l55 := hb46.lt
            obtain ⟨a56, a57, f58, f59⟩ := cells2 hb27
            have l60 := hb27.lt
            go_wp2_with fail
            clear a51 a52 f53 f54 l55 a56 a57 f58 f59 l60
            refine (rMul g1 k10).mono ?_
            rintro e w62 ⟨o61, n61, c61, r61, rfl, h61, hb63⟩
            replace h10 := h10.ext hb63
            replace k10 := k10.ext hb63
            replace g1 := g1.ext hb63
            replace hb21 := hb21.ext hb63
            replace hb27 := hb27.ext hb63
            replace hb46 := hb46.ext hb63
            replace hB := ext_trans hB hb63
            clear hb63
            obtain ⟨a64, a65, f66, f67⟩ := cells2 hb46
            have l68 := hb46.lt
            go_wp2_with fail
            clear a64 a65 f66 f67 l68
            obtain ⟨w69, hw70, hu71, hb72, sz73⟩ := mk_set2 hb46 (.slice o61 n61 c61) (.bool r61) (N := w62.heap.size) rfl
            rw [← hw70]
            replace h10 := h10.upd hb46 (noInt_rr _ _ _ _) hu71
            replace k10 := k10.upd hb46 (noInt_rr _ _ _ _) hu71
            replace g1 := g1.upd hb46 (noInt_rr _ _ _ _) hu71
            replace h61 := h61.upd hb46 (noInt_rr _ _ _ _) hu71
            replace hB := below_upd hB G50.out hb46.lt hu71
            replace hb21 := hb21.upd Ng2_g43.out hu71
            replace hb27 := hb27.upd Ng24_g43.out hu71
            clear hw70 hu71 hb46
            clear sz73
            go_roundw
            case rel => exact ⟨k + 1, _, _, _, _, by go_num, by omega, hb21, hb27, hb72, h10, k10, (by rw [Int.pow_succ]; exact h61.mono (by rw [Nat.add_mul]; omega)), hB⟩
            case measure => simp [intOf]; omega
          · skip
            obtain rfl : k = e := by omega
            have hkd : decide ((k : Int) < (k : Int)) = false := by simp
            have hkn : decide (k < k) = false := by simp
            go_wp2_with fail
            obtain ⟨Φs, hΦ⟩ : ∃ Φ : List PV, Φ = [PV.eq (.agg #[(.slice o m d), (.bool r)]), PV.eq (.agg #[(.bool s0), (.slice a0 m10 c0)]), PV.eq (.int .i64 (k : Int)), PV.zn 514 (z10 ^ k), PV.eq (.bool true), PV.eq (.bool true), PV.eq (.bool true), PV.eq (.bool true), PV.eq (.bool true)] := ⟨_, rfl⟩
            have ph0 : Φs[0]? = some (PV.eq (.agg #[(.slice o m d), (.bool r)])) := by rw [hΦ]; rfl
            have ph1 : Φs[1]? = some (PV.eq (.agg #[(.bool s0), (.slice a0 m10 c0)])) := by rw [hΦ]; rfl
            have ph2 : Φs[2]? = some (PV.eq (.int .i64 (k : Int))) := by rw [hΦ]; rfl
            have ph3 : Φs[3]? = some (PV.zn 514 (z10 ^ k)) := by rw [hΦ]; rfl
            have ph4 : Φs[4]? = some (PV.eq (.bool true)) := by rw [hΦ]; rfl
            have ph5 : Φs[5]? = some (PV.eq (.bool true)) := by rw [hΦ]; rfl
            have ph6 : Φs[6]? = some (PV.eq (.bool true)) := by rw [hΦ]; rfl
            have ph7 : Φs[7]? = some (PV.eq (.bool true)) := by rw [hΦ]; rfl
            have ph8 : Φs[8]? = some (PV.eq (.bool true)) := by rw [hΦ]; rfl
            clear hΦ
            refine wp_region_rel 9 45 Φs (by kernel_rfl) rfl rfl (by kernel_rfl) ?_ ?_
            · simp only [List.take_succ_cons, List.take_zero, stepsR]
              refine ⟨?_, ?_, ?_, ?_, ?_, ?_, ?_, ?_, ?_, trivial⟩
              · intro vs w' hE hp
                simp only [Nat.reduceAdd, Act.put, List.setIfInBounds_toArray, List.set_cons_zero, List.set_cons_succ]
                refine ifW_pos (by rfl) ?_
                obtain ⟨a0, a1, a2, a3⟩ := cells2 (hb46.ext (trans_drew hE))
                refine wp_hideK (fun K' hK => ?_)
                go_wp2_with fail
                exact ⟨rfl, Below.refl _ _, (phi_iff ph0).2 rfl⟩
              · intro vs w' hE hp
                simp only [Nat.reduceAdd, Act.put, List.setIfInBounds_toArray, List.set_cons_zero, List.set_cons_succ]
                refine ifW_pos (by rfl) ?_
                obtain ⟨a0, a1, a2, a3⟩ := cells2 (hb21.ext (trans_drew hE))
                refine wp_hideK (fun K' hK => ?_)
                go_wp2_with fail
                exact ⟨rfl, Below.refl _ _, (phi_iff ph1).2 rfl⟩
              · intro vs w' hE hp
                simp only [Nat.reduceAdd, Act.put, List.setIfInBounds_toArray, List.set_cons_zero, List.set_cons_succ]
                refine ifW_pos (by rfl) ?_
                refine wp_hideK (fun K' hK => ?_)
                go_wp2_with fail
                exact ⟨rfl, Below.refl _ _, (phi_iff ph2).2 rfl⟩
              · intro vs w' hE hp
                have p1_3 : vs 1 = (.agg #[(.bool s0), (.slice a0 m10 c0)]) := (phi_iff ph1).1 (hp 1 rfl)
                have p2_3 : vs 2 = (.int .i64 (k : Int)) := (phi_iff ph2).1 (hp 2 rfl)
                simp only [Nat.reduceAdd, Act.put, List.setIfInBounds_toArray, List.set_cons_zero, List.set_cons_succ, p1_3, p2_3]
                refine ifW_pos (by rfl) ?_
                have h10 := h10.ext (trans_drew hE)
                refine wp_hideK (fun K' hK => ?_)
                go_wp2_with fail
                refine (wPow h10 (k : Int) k HVE.out (by omega) (by omega)).mono ?_
                rintro e w2 ⟨r51, o51, n51, c51, rfl, h51, hb⟩
                go_wp2_with fail
                exact ⟨rfl, hb, (phi_iff ph3).2 ⟨_, _, _, _, rfl, h51.mono (by decide)⟩⟩
              · intro vs w' hE hp
                have p0_4 : vs 0 = (.agg #[(.slice o m d), (.bool r)]) := (phi_iff ph0).1 (hp 0 rfl)
                obtain ⟨r3_4, o3_4, n3_4, c3_4, p3_4, q3_4⟩ : ∃ r o n c, vs 3 = .agg #[.bool r, .slice o n c] ∧ Zn 514 w' r o n c (z10 ^ k) := (phi_iff ph3).1 (hp 3 rfl)
                simp only [Nat.reduceAdd, Act.put, List.setIfInBounds_toArray, List.set_cons_zero, List.set_cons_succ, p0_4, p3_4]
                refine ifW_pos (by rfl) ?_
                have g1 := g1.ext (trans_drew hE)
                refine wp_hideK (fun K' hK => ?_)
                go_wp2_with fail
                refine (lis g1 q3_4 (rfl)).mono ?_
                rintro e w2 ⟨rfl, hb⟩
                go_wp2_with fail
                exact ⟨rfl, hb, (phi_iff ph4).2 rfl⟩
              · intro vs w' hE hp
                have p4_5 : vs 4 = (.bool true) := (phi_iff ph4).1 (hp 4 rfl)
                simp only [Nat.reduceAdd, Act.put, List.setIfInBounds_toArray, List.set_cons_zero, List.set_cons_succ, p4_5]
                refine ifW_pos (by rfl) ?_
                refine wp_hideK (fun K' hK => ?_)
                go_wp2_with fail
                exact ⟨rfl, Below.refl _ _, (phi_iff ph5).2 rfl⟩
              · intro vs w' hE hp
                have p5_6 : vs 5 = (.bool true) := (phi_iff ph5).1 (hp 5 rfl)
                simp only [Nat.reduceAdd, Act.put, List.setIfInBounds_toArray, List.set_cons_zero, List.set_cons_succ, p5_6]
                refine ifW_pos (by rfl) ?_
                refine wp_hideK (fun K' hK => ?_)
                go_wp2_with fail
                refine (lwakes _).mono ?_
                rintro e w2 ⟨rfl, hb⟩
                go_wp2_with fail
                exact ⟨rfl, hb, (phi_iff ph6).2 rfl⟩
              · intro vs w' hE hp
                have p5_7 : vs 5 = (.bool true) := (phi_iff ph5).1 (hp 5 rfl)
                have p6_7 : vs 6 = (.bool true) := (phi_iff ph6).1 (hp 6 rfl)
                simp only [Nat.reduceAdd, Act.put, List.setIfInBounds_toArray, List.set_cons_zero, List.set_cons_succ, p5_7, p6_7]
                refine ifW_pos (by rfl) ?_
                refine wp_hideK (fun K' hK => ?_)
                go_wp2_with fail
                exact ⟨rfl, Below.refl _ _, (phi_iff ph7).2 rfl⟩
              · intro vs w' hE hp
                have p7_8 : vs 7 = (.bool true) := (phi_iff ph7).1 (hp 7 rfl)
                simp only [Nat.reduceAdd, Act.put, List.setIfInBounds_toArray, List.set_cons_zero, List.set_cons_succ, p7_8]
                refine ifW_pos (by rfl) ?_
                refine wp_hideK (fun K' hK => ?_)
                go_wp2_with fail
                exact ⟨rfl, Below.refl _ _, (phi_iff ph8).2 rfl⟩
            · intro vs w52 hE hphi
              have p8e : vs 8 = (.bool true) := (phi_iff ph8).1 (hphi 8 (by decide))
              replace h10 := h10.ext (trans_drew hE)
              replace k10 := k10.ext (trans_drew hE)
              replace g1 := g1.ext (trans_drew hE)
              replace hb21 := hb21.ext (trans_drew hE)
              replace hb27 := hb27.ext (trans_drew hE)
              replace hb46 := hb46.ext (trans_drew hE)
              replace hB := ext_trans hB (trans_drew hE)
              clear hphi hE ph0 ph1 ph2 ph3 ph4 ph5 ph6 ph7 ph8
              simp only [putsR, List.take_succ_cons, List.take_zero, List.drop_succ_cons, List.drop_zero, List.drop_nil, Nat.reduceAdd, Act.put, List.setIfInBounds_toArray, List.set_cons_zero, List.set_cons_succ, p8e]
              clear p8e
              go_wp2
              go_ret
              exact ⟨rfl, hB⟩
      · skip
        have dq1 : decide ((1 : Int) < (q10 : Int)) = true := by rw [decide_eq_true_eq]; omega
        have dq2 : decide (1 < q10) = true := by rw [decide_eq_true_eq]; omega
        have de1 : decide ((40 : Int) < (e0 : Int)) = false := by rw [decide_eq_false_iff_not]; omega
        have de2 : decide (40 < e0) = false := by rw [decide_eq_false_iff_not]; omega
        have heb := he0b
        have HVE := HE0
        clear hq h40
        obtain ⟨a32, a33, f34, f35⟩ := cells2 hb27
        have l36 := hb27.lt
        go_wp2_with fail
        clear a32 a33 f34 f35 l36
        refine (rOf 1 _ (by omega) (by omega)).mono ?_
        rintro e w38 ⟨o37, n37, c37, r37, rfl, h37, hb39⟩
        replace h0 := h0.ext hb39
        replace h10 := h10.ext hb39
        replace k10 := k10.ext hb39
        replace hb21 := hb21.ext hb39
        replace hb27 := hb27.ext hb39
        replace hB := ext_trans hB hb39
        clear hb39
        go_wp2_with fail
        obtain ⟨w40, g41, hw42, hg43, hb44, al45, ge46, sz47⟩ := mk_alloc w38 [(.slice o37 n37 c37), (.bool r37)] 28 (N := w38.heap.size) rfl
        rw [← hw42]
        have Ng2_g41 := hb21.ne ge46
        have Ng24_g41 := hb27.ne ge46
        have G48 := below_ge hB ge46
        replace hB := ext_trans hB al45
        replace h0 := h0.ext al45
        replace h10 := h10.ext al45
        replace k10 := k10.ext al45
        replace h37 := h37.ext al45
        replace hb21 := hb21.ext al45
        replace hb27 := hb27.ext al45
        clear hw42 al45 ge46
        rw [← hg43]
        clear hg43 sz47
        have g1 : Rn (64 + 0 * 6) w40 o37 n37 c37 r37 (z10 ^ 0) := by rw [Int.pow_zero, Nat.zero_mul, Nat.add_zero]; exact h37
        clear h37
        go_loopw [8] (fun s8 wr => ∃ (k : Nat) (r : Bool) (o : Option Addr) (m d : Nat), s8 = .int .i64 (k : Int) ∧ k ≤ e0 ∧ Blk wr g2 24 [(.bool s0), (.slice a0 m10 c0)] ∧ Blk wr g24 28 [(.slice p10 q10 d10), (.bool r10)] ∧ Blk wr g41 28 [.slice o m d, .bool r] ∧
          Za 2 wr s0 a0 m10 c0 z10 ∧ Rn (3 * 2) wr p10 q10 d10 r10 z10 ∧ Rn (64 + k * 6) wr o m d r (z10 ^ k) ∧ Below w.heap.size w wr) (fun s8 _ => e0 - (intOf s8).toNat)
        case atStart => exact ⟨0, _, _, _, _, rfl, by omega, hb21, hb27, hb44, h10, k10, g1, hB⟩
        case round =>
          clear h0 h10 k10 g1 hB hb21 hb27 hb44
          obtain ⟨k, r, o, m, d, rfl, hk, hb21, hb27, hb44, h10, k10, g1, hB⟩ := hrel
          by_cases hke : k < e0
          · skip
            have hkd : decide ((k : Int) < (e0 : Int)) = true := by rw [decide_eq_true_eq]; omega
            have hkn : decide (k < e0) = true := decide_eq_true hke
            obtain ⟨a49, a50, f51, f52⟩ := cells2 hb44
            have l53 := hb44.lt
            obtain ⟨a54, a55, f56, f57⟩ := cells2 hb27
            have l58 := hb27.lt
            go_wp2_with fail
            clear a49 a50 f51 f52 l53 a54 a55 f56 f57 l58
            refine (rMul g1 k10).mono ?_
            rintro e w60 ⟨o59, n59, c59, r59, rfl, h59, hb61⟩
            replace h10 := h10.ext hb61
            replace k10 := k10.ext hb61
            replace g1 := g1.ext hb61
            replace hb21 := hb21.ext hb61
            replace hb27 := hb27.ext hb61
            replace hb44 := hb44.ext hb61
            replace hB := ext_trans hB hb61
            clear hb61
            obtain ⟨a62, a63, f64, f65⟩ := cells2 hb44
            have l66 := hb44.lt
            go_wp2_with fail
            clear a62 a63 f64 f65 l66
            obtain ⟨w67, hw68, hu69, hb70, sz71⟩ := mk_set2 hb44 (.slice o59 n59 c59) (.bool r59) (N := w60.heap.size) rfl
            rw [← hw68]
            replace h10 := h10.upd hb44 (noInt_rr _ _ _ _) hu69
            replace k10 := k10.upd hb44 (noInt_rr _ _ _ _) hu69
            replace g1 := g1.upd hb44 (noInt_rr _ _ _ _) hu69
            replace h59 := h59.upd hb44 (noInt_rr _ _ _ _) hu69
            replace hB := below_upd hB G48.out hb44.lt hu69
            replace hb21 := hb21.upd Ng2_g41.out hu69
            replace hb27 := hb27.upd Ng24_g41.out hu69
            clear hw68 hu69 hb44
            clear sz71
            go_roundw
            case rel => exact ⟨k + 1, _, _, _, _, by go_num, by omega, hb21, hb27, hb70, h10, k10, (by rw [Int.pow_succ]; exact h59.mono (by rw [Nat.add_mul]; omega)), hB⟩
            case measure => simp [intOf]; omega
          · skip
            obtain rfl : k = e0 := by omega
            have hkd : decide ((k : Int) < (k : Int)) = false := by simp
            have hkn : decide (k < k) = false := by simp
            go_wp2_with fail
            obtain ⟨Φs, hΦ⟩ : ∃ Φ : List PV, Φ = [PV.eq (.agg #[(.slice o m d), (.bool r)]), PV.eq (.agg #[(.bool s0), (.slice a0 m10 c0)]), PV.eq (.int .i64 v), PV.zn 514 (z10 ^ k), PV.eq (.bool true), PV.eq (.bool true), PV.eq (.bool true), PV.eq (.bool true), PV.eq (.bool true)] := ⟨_, rfl⟩
            have ph0 : Φs[0]? = some (PV.eq (.agg #[(.slice o m d), (.bool r)])) := by rw [hΦ]; rfl
            have ph1 : Φs[1]? = some (PV.eq (.agg #[(.bool s0), (.slice a0 m10 c0)])) := by rw [hΦ]; rfl
            have ph2 : Φs[2]? = some (PV.eq (.int .i64 v)) := by rw [hΦ]; rfl
            have ph3 : Φs[3]? = some (PV.zn 514 (z10 ^ k)) := by rw [hΦ]; rfl
            have ph4 : Φs[4]? = some (PV.eq (.bool true)) := by rw [hΦ]; rfl
            have ph5 : Φs[5]? = some (PV.eq (.bool true)) := by rw [hΦ]; rfl
            have ph6 : Φs[6]? = some (PV.eq (.bool true)) := by rw [hΦ]; rfl
            have ph7 : Φs[7]? = some (PV.eq (.bool true)) := by rw [hΦ]; rfl
            have ph8 : Φs[8]? = some (PV.eq (.bool true)) := by rw [hΦ]; rfl
            clear hΦ
            refine wp_region_rel 9 45 Φs (by kernel_rfl) rfl rfl (by kernel_rfl) ?_ ?_
            · simp only [List.take_succ_cons, List.take_zero, stepsR]
              refine ⟨?_, ?_, ?_, ?_, ?_, ?_, ?_, ?_, ?_, trivial⟩
              · intro vs w' hE hp
                simp only [Nat.reduceAdd, Act.put, List.setIfInBounds_toArray, List.set_cons_zero, List.set_cons_succ]
                refine ifW_pos (by rfl) ?_
                obtain ⟨a0, a1, a2, a3⟩ := cells2 (hb44.ext (trans_drew hE))
                refine wp_hideK (fun K' hK => ?_)
                go_wp2_with fail
                exact ⟨rfl, Below.refl _ _, (phi_iff ph0).2 rfl⟩
              · intro vs w' hE hp
                simp only [Nat.reduceAdd, Act.put, List.setIfInBounds_toArray, List.set_cons_zero, List.set_cons_succ]
                refine ifW_pos (by rfl) ?_
                obtain ⟨a0, a1, a2, a3⟩ := cells2 (hb21.ext (trans_drew hE))
                refine wp_hideK (fun K' hK => ?_)
                go_wp2_with fail
                exact ⟨rfl, Below.refl _ _, (phi_iff ph1).2 rfl⟩
              · intro vs w' hE hp
                simp only [Nat.reduceAdd, Act.put, List.setIfInBounds_toArray, List.set_cons_zero, List.set_cons_succ]
                refine ifW_pos (by rfl) ?_
                refine wp_hideK (fun K' hK => ?_)
                go_wp2_with fail
                exact ⟨rfl, Below.refl _ _, (phi_iff ph2).2 rfl⟩
              · intro vs w' hE hp
                have p1_3 : vs 1 = (.agg #[(.bool s0), (.slice a0 m10 c0)]) := (phi_iff ph1).1 (hp 1 rfl)
                have p2_3 : vs 2 = (.int .i64 v) := (phi_iff ph2).1 (hp 2 rfl)
                simp only [Nat.reduceAdd, Act.put, List.setIfInBounds_toArray, List.set_cons_zero, List.set_cons_succ, p1_3, p2_3]
                refine ifW_pos (by rfl) ?_
                have h10 := h10.ext (trans_drew hE)
                refine wp_hideK (fun K' hK => ?_)
                go_wp2_with fail
                refine (wPow h10 v k HVE.out hv1 hv2).mono ?_
                rintro e w2 ⟨r49, o49, n49, c49, rfl, h49, hb⟩
                go_wp2_with fail
                exact ⟨rfl, hb, (phi_iff ph3).2 ⟨_, _, _, _, rfl, h49.mono (by decide)⟩⟩
              · intro vs w' hE hp
                have p0_4 : vs 0 = (.agg #[(.slice o m d), (.bool r)]) := (phi_iff ph0).1 (hp 0 rfl)
                obtain ⟨r3_4, o3_4, n3_4, c3_4, p3_4, q3_4⟩ : ∃ r o n c, vs 3 = .agg #[.bool r, .slice o n c] ∧ Zn 514 w' r o n c (z10 ^ k) := (phi_iff ph3).1 (hp 3 rfl)
                simp only [Nat.reduceAdd, Act.put, List.setIfInBounds_toArray, List.set_cons_zero, List.set_cons_succ, p0_4, p3_4]
                refine ifW_pos (by rfl) ?_
                have g1 := g1.ext (trans_drew hE)
                refine wp_hideK (fun K' hK => ?_)
                go_wp2_with fail
                refine (lis g1 q3_4 (rfl)).mono ?_
                rintro e w2 ⟨rfl, hb⟩
                go_wp2_with fail
                exact ⟨rfl, hb, (phi_iff ph4).2 rfl⟩
              · intro vs w' hE hp
                have p4_5 : vs 4 = (.bool true) := (phi_iff ph4).1 (hp 4 rfl)
                simp only [Nat.reduceAdd, Act.put, List.setIfInBounds_toArray, List.set_cons_zero, List.set_cons_succ, p4_5]
                refine ifW_pos (by rfl) ?_
                refine wp_hideK (fun K' hK => ?_)
                go_wp2_with fail
                exact ⟨rfl, Below.refl _ _, (phi_iff ph5).2 rfl⟩
              · intro vs w' hE hp
                have p5_6 : vs 5 = (.bool true) := (phi_iff ph5).1 (hp 5 rfl)
                simp only [Nat.reduceAdd, Act.put, List.setIfInBounds_toArray, List.set_cons_zero, List.set_cons_succ, p5_6]
                refine ifW_pos (by rfl) ?_
                refine wp_hideK (fun K' hK => ?_)
                go_wp2_with fail
                refine (lwakes _).mono ?_
                rintro e w2 ⟨rfl, hb⟩
                go_wp2_with fail
                exact ⟨rfl, hb, (phi_iff ph6).2 rfl⟩
              · intro vs w' hE hp
                have p5_7 : vs 5 = (.bool true) := (phi_iff ph5).1 (hp 5 rfl)
                have p6_7 : vs 6 = (.bool true) := (phi_iff ph6).1 (hp 6 rfl)
                simp only [Nat.reduceAdd, Act.put, List.setIfInBounds_toArray, List.set_cons_zero, List.set_cons_succ, p5_7, p6_7]
                refine ifW_pos (by rfl) ?_
                refine wp_hideK (fun K' hK => ?_)
                go_wp2_with fail
                exact ⟨rfl, Below.refl _ _, (phi_iff ph7).2 rfl⟩
              · intro vs w' hE hp
                have p7_8 : vs 7 = (.bool true) := (phi_iff ph7).1 (hp 7 rfl)
                simp only [Nat.reduceAdd, Act.put, List.setIfInBounds_toArray, List.set_cons_zero, List.set_cons_succ, p7_8]
                refine ifW_pos (by rfl) ?_
                refine wp_hideK (fun K' hK => ?_)
                go_wp2_with fail
                exact ⟨rfl, Below.refl _ _, (phi_iff ph8).2 rfl⟩
            · intro vs w50 hE hphi
              have p8e : vs 8 = (.bool true) := (phi_iff ph8).1 (hphi 8 (by decide))
              replace h10 := h10.ext (trans_drew hE)
              replace k10 := k10.ext (trans_drew hE)
              replace g1 := g1.ext (trans_drew hE)
              replace hb21 := hb21.ext (trans_drew hE)
              replace hb27 := hb27.ext (trans_drew hE)
              replace hb44 := hb44.ext (trans_drew hE)
              replace hB := ext_trans hB (trans_drew hE)
              clear hphi hE ph0 ph1 ph2 ph3 ph4 ph5 ph6 ph7 ph8
              simp only [putsR, List.take_succ_cons, List.take_zero, List.drop_succ_cons, List.drop_zero, List.drop_nil, Nat.reduceAdd, Act.put, List.setIfInBounds_toArray, List.set_cons_zero, List.set_cons_succ, p8e]
              clear p8e
              go_wp2
              go_ret
              exact ⟨rfl, hB⟩
    · skip
      have dq1 : decide ((1 : Int) < (q10 : Int)) = false := by rw [decide_eq_false_iff_not]; omega
      have dq2 : decide (1 < q10) = false := by rw [decide_eq_false_iff_not]; omega
      have heb := he0b
      have HVE := HE0
      clear hq
      obtain ⟨a32, a33, f34, f35⟩ := cells2 hb27
      have l36 := hb27.lt
      go_wp2_with fail
      clear a32 a33 f34 f35 l36
      refine (rOf 1 _ (by omega) (by omega)).mono ?_
      rintro e w38 ⟨o37, n37, c37, r37, rfl, h37, hb39⟩
      replace h0 := h0.ext hb39
      replace h10 := h10.ext hb39
      replace k10 := k10.ext hb39
      replace hb21 := hb21.ext hb39
      replace hb27 := hb27.ext hb39
      replace hB := ext_trans hB hb39
      clear hb39
      go_wp2_with fail
      obtain ⟨w40, g41, hw42, hg43, hb44, al45, ge46, sz47⟩ := mk_alloc w38 [(.slice o37 n37 c37), (.bool r37)] 28 (N := w38.heap.size) rfl
      rw [← hw42]
      have Ng2_g41 := hb21.ne ge46
      have Ng24_g41 := hb27.ne ge46
      have G48 := below_ge hB ge46
      replace hB := ext_trans hB al45
      replace h0 := h0.ext al45
      replace h10 := h10.ext al45
      replace k10 := k10.ext al45
      replace h37 := h37.ext al45
      replace hb21 := hb21.ext al45
      replace hb27 := hb27.ext al45
      clear hw42 al45 ge46
      rw [← hg43]
      clear hg43 sz47
      have g1 : Rn (64 + 0 * 6) w40 o37 n37 c37 r37 (z10 ^ 0) := by rw [Int.pow_zero, Nat.zero_mul, Nat.add_zero]; exact h37
      clear h37
      go_loopw [8] (fun s8 wr => ∃ (k : Nat) (r : Bool) (o : Option Addr) (m d : Nat), s8 = .int .i64 (k : Int) ∧ k ≤ e0 ∧ Blk wr g2 24 [(.bool s0), (.slice a0 m10 c0)] ∧ Blk wr g24 28 [(.slice p10 q10 d10), (.bool r10)] ∧ Blk wr g41 28 [.slice o m d, .bool r] ∧
        Za 2 wr s0 a0 m10 c0 z10 ∧ Rn (3 * 2) wr p10 q10 d10 r10 z10 ∧ Rn (64 + k * 6) wr o m d r (z10 ^ k) ∧ Below w.heap.size w wr) (fun s8 _ => e0 - (intOf s8).toNat)
      case atStart => exact ⟨0, _, _, _, _, rfl, by omega, hb21, hb27, hb44, h10, k10, g1, hB⟩
      case round =>
        clear h0 h10 k10 g1 hB hb21 hb27 hb44
        obtain ⟨k, r, o, m, d, rfl, hk, hb21, hb27, hb44, h10, k10, g1, hB⟩ := hrel
        by_cases hke : k < e0
        · skip
          have hkd : decide ((k : Int) < (e0 : Int)) = true := by rw [decide_eq_true_eq]; omega
          have hkn : decide (k < e0) = true := decide_eq_true hke
          obtain ⟨a49, a50, f51, f52⟩ := cells2 hb44
          have l53 := hb44.lt
          obtain ⟨a54, a55, f56, f57⟩ := cells2 hb27
          have l58 := hb27.lt
          go_wp2_with fail
          clear a49 a50 f51 f52 l53 a54 a55 f56 f57 l58
          refine (rMul g1 k10).mono ?_
          rintro e w60 ⟨o59, n59, c59, r59, rfl, h59, hb61⟩
          replace h10 := h10.ext hb61
          replace k10 := k10.ext hb61
          replace g1 := g1.ext hb61
          replace hb21 := hb21.ext hb61
          replace hb27 := hb27.ext hb61
          replace hb44 := hb44.ext hb61
          replace hB := ext_trans hB hb61
          clear hb61
          obtain ⟨a62, a63, f64, f65⟩ := cells2 hb44
          have l66 := hb44.lt
          go_wp2_with fail
          clear a62 a63 f64 f65 l66
          obtain ⟨w67, hw68, hu69, hb70, sz71⟩ := mk_set2 hb44 (.slice o59 n59 c59) (.bool r59) (N := w60.heap.size) rfl
          rw [← hw68]
          replace h10 := h10.upd hb44 (noInt_rr _ _ _ _) hu69
          replace k10 := k10.upd hb44 (noInt_rr _ _ _ _) hu69
          replace g1 := g1.upd hb44 (noInt_rr _ _ _ _) hu69
          replace h59 := h59.upd hb44 (noInt_rr _ _ _ _) hu69
          replace hB := below_upd hB G48.out hb44.lt hu69
          replace hb21 := hb21.upd Ng2_g41.out hu69
          replace hb27 := hb27.upd Ng24_g41.out hu69
          clear hw68 hu69 hb44
          clear sz71
          go_roundw
          case rel => exact ⟨k + 1, _, _, _, _, by go_num, by omega, hb21, hb27, hb70, h10, k10, (by rw [Int.pow_succ]; exact h59.mono (by rw [Nat.add_mul]; omega)), hB⟩
          case measure => simp [intOf]; omega
        · skip
          obtain rfl : k = e0 := by omega
          have hkd : decide ((k : Int) < (k : Int)) = false := by simp
          have hkn : decide (k < k) = false := by simp
          go_wp2_with fail
          obtain ⟨Φs, hΦ⟩ : ∃ Φ : List PV, Φ = [PV.eq (.agg #[(.slice o m d), (.bool r)]), PV.eq (.agg #[(.bool s0), (.slice a0 m10 c0)]), PV.eq (.int .i64 v), PV.zn 514 (z10 ^ k), PV.eq (.bool true), PV.eq (.bool true), PV.eq (.bool true), PV.eq (.bool true), PV.eq (.bool true)] := ⟨_, rfl⟩
          have ph0 : Φs[0]? = some (PV.eq (.agg #[(.slice o m d), (.bool r)])) := by rw [hΦ]; rfl
          have ph1 : Φs[1]? = some (PV.eq (.agg #[(.bool s0), (.slice a0 m10 c0)])) := by rw [hΦ]; rfl
          have ph2 : Φs[2]? = some (PV.eq (.int .i64 v)) := by rw [hΦ]; rfl
          have ph3 : Φs[3]? = some (PV.zn 514 (z10 ^ k)) := by rw [hΦ]; rfl
          have ph4 : Φs[4]? = some (PV.eq (.bool true)) := by rw [hΦ]; rfl
          have ph5 : Φs[5]? = some (PV.eq (.bool true)) := by rw [hΦ]; rfl
          have ph6 : Φs[6]? = some (PV.eq (.bool true)) := by rw [hΦ]; rfl
          have ph7 : Φs[7]? = some (PV.eq (.bool true)) := by rw [hΦ]; rfl
          have ph8 : Φs[8]? = some (PV.eq (.bool true)) := by rw [hΦ]; rfl
          clear hΦ
          refine wp_region_rel 9 45 Φs (by kernel_rfl) rfl rfl (by kernel_rfl) ?_ ?_
          · simp only [List.take_succ_cons, List.take_zero, stepsR]
            refine ⟨?_, ?_, ?_, ?_, ?_, ?_, ?_, ?_, ?_, trivial⟩
            · intro vs w' hE hp
              simp only [Nat.reduceAdd, Act.put, List.setIfInBounds_toArray, List.set_cons_zero, List.set_cons_succ]
              refine ifW_pos (by rfl) ?_
              obtain ⟨a0, a1, a2, a3⟩ := cells2 (hb44.ext (trans_drew hE))
              refine wp_hideK (fun K' hK => ?_)
              go_wp2_with fail
              exact ⟨rfl, Below.refl _ _, (phi_iff ph0).2 rfl⟩
            · intro vs w' hE hp
              simp only [Nat.reduceAdd, Act.put, List.setIfInBounds_toArray, List.set_cons_zero, List.set_cons_succ]
              refine ifW_pos (by rfl) ?_
              obtain ⟨a0, a1, a2, a3⟩ := cells2 (hb21.ext (trans_drew hE))
              refine wp_hideK (fun K' hK => ?_)
              go_wp2_with fail
              exact ⟨rfl, Below.refl _ _, (phi_iff ph1).2 rfl⟩
            · intro vs w' hE hp
              simp only [Nat.reduceAdd, Act.put, List.setIfInBounds_toArray, List.set_cons_zero, List.set_cons_succ]
              refine ifW_pos (by rfl) ?_
              refine wp_hideK (fun K' hK => ?_)
              go_wp2_with fail
              exact ⟨rfl, Below.refl _ _, (phi_iff ph2).2 rfl⟩
            · intro vs w' hE hp
              have p1_3 : vs 1 = (.agg #[(.bool s0), (.slice a0 m10 c0)]) := (phi_iff ph1).1 (hp 1 rfl)
              have p2_3 : vs 2 = (.int .i64 v) := (phi_iff ph2).1 (hp 2 rfl)
              simp only [Nat.reduceAdd, Act.put, List.setIfInBounds_toArray, List.set_cons_zero, List.set_cons_succ, p1_3, p2_3]
              refine ifW_pos (by rfl) ?_
              have h10 := h10.ext (trans_drew hE)
              refine wp_hideK (fun K' hK => ?_)
              go_wp2_with fail
              refine (wPow h10 v k HVE.out hv1 hv2).mono ?_
              rintro e w2 ⟨r49, o49, n49, c49, rfl, h49, hb⟩
              go_wp2_with fail
              exact ⟨rfl, hb, (phi_iff ph3).2 ⟨_, _, _, _, rfl, h49.mono (by decide)⟩⟩
            · intro vs w' hE hp
              have p0_4 : vs 0 = (.agg #[(.slice o m d), (.bool r)]) := (phi_iff ph0).1 (hp 0 rfl)
              obtain ⟨r3_4, o3_4, n3_4, c3_4, p3_4, q3_4⟩ : ∃ r o n c, vs 3 = .agg #[.bool r, .slice o n c] ∧ Zn 514 w' r o n c (z10 ^ k) := (phi_iff ph3).1 (hp 3 rfl)
              simp only [Nat.reduceAdd, Act.put, List.setIfInBounds_toArray, List.set_cons_zero, List.set_cons_succ, p0_4, p3_4]
              refine ifW_pos (by rfl) ?_
              have g1 := g1.ext (trans_drew hE)
              refine wp_hideK (fun K' hK => ?_)
              go_wp2_with fail
              refine (lis g1 q3_4 (rfl)).mono ?_
              rintro e w2 ⟨rfl, hb⟩
              go_wp2_with fail
              exact ⟨rfl, hb, (phi_iff ph4).2 rfl⟩
            · intro vs w' hE hp
              have p4_5 : vs 4 = (.bool true) := (phi_iff ph4).1 (hp 4 rfl)
              simp only [Nat.reduceAdd, Act.put, List.setIfInBounds_toArray, List.set_cons_zero, List.set_cons_succ, p4_5]
              refine ifW_pos (by rfl) ?_
              refine wp_hideK (fun K' hK => ?_)
              go_wp2_with fail
              exact ⟨rfl, Below.refl _ _, (phi_iff ph5).2 rfl⟩
            · intro vs w' hE hp
              have p5_6 : vs 5 = (.bool true) := (phi_iff ph5).1 (hp 5 rfl)
              simp only [Nat.reduceAdd, Act.put, List.setIfInBounds_toArray, List.set_cons_zero, List.set_cons_succ, p5_6]
              refine ifW_pos (by rfl) ?_
              refine wp_hideK (fun K' hK => ?_)
              go_wp2_with fail
              refine (lwakes _).mono ?_
              rintro e w2 ⟨rfl, hb⟩
              go_wp2_with fail
              exact ⟨rfl, hb, (phi_iff ph6).2 rfl⟩
            · intro vs w' hE hp
              have p5_7 : vs 5 = (.bool true) := (phi_iff ph5).1 (hp 5 rfl)
              have p6_7 : vs 6 = (.bool true) := (phi_iff ph6).1 (hp 6 rfl)
              simp only [Nat.reduceAdd, Act.put, List.setIfInBounds_toArray, List.set_cons_zero, List.set_cons_succ, p5_7, p6_7]
              refine ifW_pos (by rfl) ?_
              refine wp_hideK (fun K' hK => ?_)
              go_wp2_with fail
              exact ⟨rfl, Below.refl _ _, (phi_iff ph7).2 rfl⟩
            · intro vs w' hE hp
              have p7_8 : vs 7 = (.bool true) := (phi_iff ph7).1 (hp 7 rfl)
              simp only [Nat.reduceAdd, Act.put, List.setIfInBounds_toArray, List.set_cons_zero, List.set_cons_succ, p7_8]
              refine ifW_pos (by rfl) ?_
              refine wp_hideK (fun K' hK => ?_)
              go_wp2_with fail
              exact ⟨rfl, Below.refl _ _, (phi_iff ph8).2 rfl⟩
          · intro vs w50 hE hphi
            have p8e : vs 8 = (.bool true) := (phi_iff ph8).1 (hphi 8 (by decide))
            replace h10 := h10.ext (trans_drew hE)
            replace k10 := k10.ext (trans_drew hE)
            replace g1 := g1.ext (trans_drew hE)
            replace hb21 := hb21.ext (trans_drew hE)
            replace hb27 := hb27.ext (trans_drew hE)
            replace hb44 := hb44.ext (trans_drew hE)
            replace hB := ext_trans hB (trans_drew hE)
            clear hphi hE ph0 ph1 ph2 ph3 ph4 ph5 ph6 ph7 ph8
            simp only [putsR, List.take_succ_cons, List.take_zero, List.drop_succ_cons, List.drop_zero, List.drop_nil, Nat.reduceAdd, Act.put, List.setIfInBounds_toArray, List.set_cons_zero, List.set_cons_succ, p8e]
            clear p8e
            go_wp2
            go_ret
            exact ⟨rfl, hB⟩

end Go.Proofs.Ytkcagkcphobmfaa
