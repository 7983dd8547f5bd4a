/-
  THE WALK OF THE STATEMENT: which is greater, and what keeps it.
-/
import Derived.Test.YtkcagkcphobmfaaZn
set_option linter.unusedVariables false
set_option linter.unusedSimpArgs false
namespace Go.Proofs.Ytkcagkcphobmfaa
open Go.RowKit

theorem cmpZ_turn (x y : Int) : cmpZ y x = -cmpZ x y := cmpZ_neg y x
theorem cmpZ_negs (x y : Int) : cmpZ (-x) (-y) = -cmpZ x y := by
  rw [← sign_sub, ← sign_sub, show -x - -y = -(x - y) by omega, Int.sign_neg]
theorem cmpZ_add (x y z : Int) : cmpZ (x + z) (y + z) = cmpZ x y := by
  rw [← sign_sub, ← sign_sub, show x + z - (y + z) = x - y by omega]
theorem cmpZ_mul (x y z : Int) : cmpZ (x * z) (y * z) = cmpZ x y * z.sign := by
  rw [← sign_sub, ← sign_sub, ← Int.sub_mul, Int.sign_mul]

theorem sign_zero_cmp (x : Int) : cmpZ x 0 = x.sign := by rw [← sign_sub, Int.sub_zero]
theorem mul_unit {v s : Int} (h1 : -1 ≤ v) (h2 : v ≤ 1) (h3 : -1 ≤ s) (h4 : s ≤ 1) : -1 ≤ v * s ∧ v * s ≤ 1 := by
  have : v = -1 ∨ v = 0 ∨ v = 1 := by omega
  rcases this with rfl | rfl | rfl <;> omega
theorem wrap_small {x : Int} (h1 : -1 ≤ x) (h2 : x ≤ 1) : IntKind.i64.wrap x = x := IntWalk.i64_in _ (by omega)
theorem abs_sign (x : Int) : 0 ≤ Int.sign (Int.natAbs x : Int) := by
  rw [sign_ite]
  repeat' split
  all_goals omega

set_option maxRecDepth 100000 in
set_option maxHeartbeats 8000000 in
theorem wholeOrders_walk {w : World} {s0 : Bool} {a0 : Option Addr} {n0 c0 : Nat} {x0 : Int} {s1 : Bool} {a1 : Option Addr} {n1 c1 : Nat} {x1 : Int} {s2 : Bool} {a2 : Option Addr} {n2 c2 : Nat} {x2 : Int} (h0 : Za 9223372036854775807 w s0 a0 n0 c0 x0) (h1 : Za 9223372036854775807 w s1 a1 n1 c1 x1) (h2 : Za 9223372036854775807 w s2 a2 n2 c2 x2) :
    Calls Try.prog 12 #[.agg #[.bool s0, .slice a0 n0 c0], .agg #[.bool s1, .slice a1 n1 c1], .agg #[.bool s2, .slice a2 n2 c2]] w (RetV (.bool true) w) := by
  go_enter Try.func12, Try.ntmps12
  have hB := Below.refl w.heap.size w
  go_wp2_with fail
  obtain ⟨w1, g2, hw3, hg4, hb5, al6, ge7, sz8⟩ := mk_alloc w [(.bool s0), (.slice a0 n0 c0)] 24 (N := w.heap.size) rfl
  rw [← hw3]
  have G9 := below_ge hB ge7
  replace hB := ext_trans hB al6
  replace h0 := h0.ext al6
  replace h1 := h1.ext al6
  replace h2 := h2.ext al6
  clear hw3 al6 ge7
  obtain ⟨w10, g11, hw12, hg13, hb14, al15, ge16, sz17⟩ := mk_alloc w1 [(.bool s1), (.slice a1 n1 c1)] 24 (N := w.heap.size + 1) sz8
  rw [← hw12]
  have Ng2_g11 := hb5.ne ge16
  have G18 := below_ge hB ge16
  replace hB := ext_trans hB al15
  replace h0 := h0.ext al15
  replace h1 := h1.ext al15
  replace h2 := h2.ext al15
  replace hb5 := hb5.ext al15
  clear hw12 al15 ge16
  obtain ⟨w19, g20, hw21, hg22, hb23, al24, ge25, sz26⟩ := mk_alloc w10 [(.bool s2), (.slice a2 n2 c2)] 24 (N := w.heap.size + 1 + 1) sz17
  rw [← hw21]
  have Ng2_g20 := hb5.ne ge25
  have Ng11_g20 := hb14.ne ge25
  have G27 := below_ge hB ge25
  replace hB := ext_trans hB al24
  replace h0 := h0.ext al24
  replace h1 := h1.ext al24
  replace h2 := h2.ext al24
  replace hb5 := hb5.ext al24
  replace hb14 := hb14.ext al24
  clear hw21 al24 ge25
  try rw [show w.heap.size + 2 = g20 from hg22.symm]
  try rw [← hg22]
  rw [← hg13]
  rw [← hg4]
  clear hg4 hg13 hg22 sz8 sz17 sz26
  refine (lof 6 h0).mono ?_
  rintro e w29 ⟨m28, z28, p28, q28, d28, r28, rfl, h28, k28, hb30⟩
  replace h0 := h0.ext hb30
  replace h1 := h1.ext hb30
  replace h2 := h2.ext hb30
  replace hb5 := hb5.ext hb30
  replace hb14 := hb14.ext hb30
  replace hb23 := hb23.ext hb30
  replace hB := ext_trans hB hb30
  clear hb30
  obtain ⟨a31, a32, f33, f34⟩ := cells2 hb5
  have l35 := hb5.lt
  obtain ⟨a36, a37, f38, f39⟩ := cells2 hb14
  have l40 := hb14.lt
  have Mg11_g2 := hid_ne Ng2_g11
  have e41 := Mg11_g2.out
  go_wp2_with fail
  clear a31 a32 f33 f34 l35 a36 a37 f38 f39 l40 e41
  obtain ⟨w42, hw43, hu44, hb45, sz46⟩ := mk_set2 hb5 (.bool s0) (.slice a0 m28 c0) (N := w29.heap.size) rfl
  rw [← hw43]
  replace h0 := h0.upd hb5 (noInt_zz _ _ _ _) hu44
  replace h1 := h1.upd hb5 (noInt_zz _ _ _ _) hu44
  replace h2 := h2.upd hb5 (noInt_zz _ _ _ _) hu44
  replace h28 := h28.upd hb5 (noInt_zz _ _ _ _) hu44
  replace k28 := k28.upd hb5 (noInt_zz _ _ _ _) hu44
  replace hB := below_upd hB G9.out hb5.lt hu44
  replace hb14 := hb14.upd Mg11_g2.out hu44
  have Mg20_g2 := hid_ne Ng2_g20
  replace hb23 := hb23.upd Mg20_g2.out hu44
  clear hw43 hu44 hb5
  clear sz46
  refine (lof 6 h1).mono ?_
  rintro e w48 ⟨m47, z47, p47, q47, d47, r47, rfl, h47, k47, hb49⟩
  replace h0 := h0.ext hb49
  replace h1 := h1.ext hb49
  replace h2 := h2.ext hb49
  replace h28 := h28.ext hb49
  replace k28 := k28.ext hb49
  replace hb45 := hb45.ext hb49
  replace hb14 := hb14.ext hb49
  replace hb23 := hb23.ext hb49
  replace hB := ext_trans hB hb49
  clear hb49
  obtain ⟨a50, a51, f52, f53⟩ := cells2 hb14
  have l54 := hb14.lt
  obtain ⟨a55, a56, f57, f58⟩ := cells2 hb23
  have l59 := hb23.lt
  have Mg20_g11 := hid_ne Ng11_g20
  have e60 := Mg20_g11.out
  go_wp2_with fail
  clear a50 a51 f52 f53 l54 a55 a56 f57 f58 l59 e60
  obtain ⟨w61, hw62, hu63, hb64, sz65⟩ := mk_set2 hb14 (.bool s1) (.slice a1 m47 c1) (N := w48.heap.size) rfl
  rw [← hw62]
  replace h0 := h0.upd hb14 (noInt_zz _ _ _ _) hu63
  replace h1 := h1.upd hb14 (noInt_zz _ _ _ _) hu63
  replace h2 := h2.upd hb14 (noInt_zz _ _ _ _) hu63
  replace h28 := h28.upd hb14 (noInt_zz _ _ _ _) hu63
  replace k28 := k28.upd hb14 (noInt_zz _ _ _ _) hu63
  replace h47 := h47.upd hb14 (noInt_zz _ _ _ _) hu63
  replace k47 := k47.upd hb14 (noInt_zz _ _ _ _) hu63
  replace hB := below_upd hB G18.out hb14.lt hu63
  replace hb45 := hb45.upd Ng2_g11.out hu63
  replace hb23 := hb23.upd Mg20_g11.out hu63
  clear hw62 hu63 hb14
  clear sz65
  refine (lof 6 h2).mono ?_
  rintro e w67 ⟨m66, z66, p66, q66, d66, r66, rfl, h66, k66, hb68⟩
  replace h0 := h0.ext hb68
  replace h1 := h1.ext hb68
  replace h2 := h2.ext hb68
  replace h28 := h28.ext hb68
  replace k28 := k28.ext hb68
  replace h47 := h47.ext hb68
  replace k47 := k47.ext hb68
  replace hb45 := hb45.ext hb68
  replace hb64 := hb64.ext hb68
  replace hb23 := hb23.ext hb68
  replace hB := ext_trans hB hb68
  clear hb68
  obtain ⟨v, hv⟩ : ∃ v, cmpZ z28 z47 = v := ⟨_, rfl⟩
  have hv1 : -1 ≤ v := by rw [← hv]; exact (cmpZ_bounds _ _).1
  have hv2 : v ≤ 1 := by rw [← hv]; exact (cmpZ_bounds _ _).2
  have HV := hid hv; clear hv
  obtain ⟨a69, a70, f71, f72⟩ := cells2 hb23
  have l73 := hb23.lt
  obtain ⟨a74, a75, f76, f77⟩ := cells2 hb45
  have l78 := hb45.lt
  obtain ⟨a79, a80, f81, f82⟩ := cells2 hb64
  have l83 := hb64.lt
  have e84 := Ng2_g20.out
  have e85 := Ng11_g20.out
  go_wp2_with fail
  clear a69 a70 f71 f72 l73 a74 a75 f76 f77 l78 a79 a80 f81 f82 l83 e84 e85
  obtain ⟨w86, hw87, hu88, hb89, sz90⟩ := mk_set2 hb23 (.bool s2) (.slice a2 m66 c2) (N := w67.heap.size) rfl
  rw [← hw87]
  replace h0 := h0.upd hb23 (noInt_zz _ _ _ _) hu88
  replace h1 := h1.upd hb23 (noInt_zz _ _ _ _) hu88
  replace h2 := h2.upd hb23 (noInt_zz _ _ _ _) hu88
  replace h28 := h28.upd hb23 (noInt_zz _ _ _ _) hu88
  replace k28 := k28.upd hb23 (noInt_zz _ _ _ _) hu88
  replace h47 := h47.upd hb23 (noInt_zz _ _ _ _) hu88
  replace k47 := k47.upd hb23 (noInt_zz _ _ _ _) hu88
  replace h66 := h66.upd hb23 (noInt_zz _ _ _ _) hu88
  replace k66 := k66.upd hb23 (noInt_zz _ _ _ _) hu88
  replace hB := below_upd hB G27.out hb23.lt hu88
  replace hb45 := hb45.upd Ng2_g20.out hu88
  replace hb64 := hb64.upd Ng11_g20.out hu88
  clear hw87 hu88 hb23
  clear sz90
  refine (wCmp (v := v) h28 h47 (HV.out)).mono ?_
  rintro e w91 ⟨rfl, hb92⟩
  replace h0 := h0.ext hb92
  replace h1 := h1.ext hb92
  replace h2 := h2.ext hb92
  replace h28 := h28.ext hb92
  replace k28 := k28.ext hb92
  replace h47 := h47.ext hb92
  replace k47 := k47.ext hb92
  replace h66 := h66.ext hb92
  replace k66 := k66.ext hb92
  replace hb45 := hb45.ext hb92
  replace hb64 := hb64.ext hb92
  replace hb89 := hb89.ext hb92
  replace hB := ext_trans hB hb92
  clear hb92
  go_wp2_with fail
  obtain ⟨Φs, hΦ⟩ : ∃ Φ : List PV, Φ = [PV.eq (.int .i64 v), PV.eq (.agg #[(.bool s1), (.slice a1 m47 c1)]), PV.eq (.agg #[(.bool s0), (.slice a0 m28 c0)]), PV.eq (.int .i64 (-v)), PV.eq (.int .i64 v), PV.eq (.bool false), PV.eq (.bool false), PV.eq (.agg #[(.bool s0), (.slice a0 m28 c0)]), PV.zn 6 (-z28), PV.eq (.agg #[(.bool s1), (.slice a1 m47 c1)]), PV.zn 6 (-z47), PV.eq (.int .i64 (-v)), PV.eq (.int .i64 v), PV.eq (.int .i64 (-v)), PV.eq (.bool false), PV.eq (.bool false), PV.eq (.bool false), PV.eq (.agg #[(.bool s0), (.slice a0 m28 c0)]), PV.eq (.agg #[(.bool s2), (.slice a2 m66 c2)]), PV.zn 7 (z28 + z66), PV.eq (.agg #[(.bool s1), (.slice a1 m47 c1)]), PV.eq (.agg #[(.bool s2), (.slice a2 m66 c2)]), PV.zn 7 (z47 + z66), PV.eq (.int .i64 v), PV.eq (.int .i64 v), PV.eq (.bool false), PV.eq (.bool false)] := ⟨_, rfl⟩
  have ph0 : Φs[0]? = some (PV.eq (.int .i64 v)) := by rw [hΦ]; rfl
  have ph1 : Φs[1]? = some (PV.eq (.agg #[(.bool s1), (.slice a1 m47 c1)])) := by rw [hΦ]; rfl
  have ph2 : Φs[2]? = some (PV.eq (.agg #[(.bool s0), (.slice a0 m28 c0)])) := by rw [hΦ]; rfl
  have ph3 : Φs[3]? = some (PV.eq (.int .i64 (-v))) := by rw [hΦ]; rfl
  have ph4 : Φs[4]? = some (PV.eq (.int .i64 v)) := by rw [hΦ]; rfl
  have ph5 : Φs[5]? = some (PV.eq (.bool false)) := by rw [hΦ]; rfl
  have ph6 : Φs[6]? = some (PV.eq (.bool false)) := by rw [hΦ]; rfl
  have ph7 : Φs[7]? = some (PV.eq (.agg #[(.bool s0), (.slice a0 m28 c0)])) := by rw [hΦ]; rfl
  have ph8 : Φs[8]? = some (PV.zn 6 (-z28)) := by rw [hΦ]; rfl
  have ph9 : Φs[9]? = some (PV.eq (.agg #[(.bool s1), (.slice a1 m47 c1)])) := by rw [hΦ]; rfl
  have ph10 : Φs[10]? = some (PV.zn 6 (-z47)) := by rw [hΦ]; rfl
  have ph11 : Φs[11]? = some (PV.eq (.int .i64 (-v))) := by rw [hΦ]; rfl
  have ph12 : Φs[12]? = some (PV.eq (.int .i64 v)) := by rw [hΦ]; rfl
  have ph13 : Φs[13]? = some (PV.eq (.int .i64 (-v))) := by rw [hΦ]; rfl
  have ph14 : Φs[14]? = some (PV.eq (.bool false)) := by rw [hΦ]; rfl
  have ph15 : Φs[15]? = some (PV.eq (.bool false)) := by rw [hΦ]; rfl
  have ph16 : Φs[16]? = some (PV.eq (.bool false)) := by rw [hΦ]; rfl
  have ph17 : Φs[17]? = some (PV.eq (.agg #[(.bool s0), (.slice a0 m28 c0)])) := by rw [hΦ]; rfl
  have ph18 : Φs[18]? = some (PV.eq (.agg #[(.bool s2), (.slice a2 m66 c2)])) := by rw [hΦ]; rfl
  have ph19 : Φs[19]? = some (PV.zn 7 (z28 + z66)) := by rw [hΦ]; rfl
  have ph20 : Φs[20]? = some (PV.eq (.agg #[(.bool s1), (.slice a1 m47 c1)])) := by rw [hΦ]; rfl
  have ph21 : Φs[21]? = some (PV.eq (.agg #[(.bool s2), (.slice a2 m66 c2)])) := by rw [hΦ]; rfl
  have ph22 : Φs[22]? = some (PV.zn 7 (z47 + z66)) := by rw [hΦ]; rfl
  have ph23 : Φs[23]? = some (PV.eq (.int .i64 v)) := by rw [hΦ]; rfl
  have ph24 : Φs[24]? = some (PV.eq (.int .i64 v)) := by rw [hΦ]; rfl
  have ph25 : Φs[25]? = some (PV.eq (.bool false)) := by rw [hΦ]; rfl
  have ph26 : Φs[26]? = some (PV.eq (.bool false)) := by rw [hΦ]; rfl
  clear hΦ
  refine wp_region_rel 27 94 Φs (by kernel_rfl) rfl rfl (by kernel_rfl) ?_ ?_
  · simp only [List.take_succ_cons, List.take_zero, stepsR]
    refine ⟨?_, ?_, ?_, ?_, ?_, ?_, ?_, ?_, ?_, ?_, ?_, ?_, ?_, ?_, ?_, ?_, ?_, ?_, ?_, ?_, ?_, ?_, ?_, ?_, ?_, ?_, ?_, trivial⟩
    · intro vs w' hE hp
      simp only [Nat.reduceAdd, Act.put, List.setIfInBounds_toArray, List.set_cons_zero, List.set_cons_succ]
      refine ifW_pos (by rfl) ?_
      refine wp_hideK (fun K' hK => ?_)
      go_wp2_with fail
      exact ⟨rfl, Below.refl _ _, (phi_iff ph0).2 rfl⟩
    · intro vs w' hE hp
      simp only [Nat.reduceAdd, Act.put, List.setIfInBounds_toArray, List.set_cons_zero, List.set_cons_succ]
      refine ifW_pos (by rfl) ?_
      obtain ⟨a0, a1, a2, a3⟩ := cells2 (hb64.ext (trans_drew hE))
      refine wp_hideK (fun K' hK => ?_)
      go_wp2_with fail
      exact ⟨rfl, Below.refl _ _, (phi_iff ph1).2 rfl⟩
    · intro vs w' hE hp
      simp only [Nat.reduceAdd, Act.put, List.setIfInBounds_toArray, List.set_cons_zero, List.set_cons_succ]
      refine ifW_pos (by rfl) ?_
      obtain ⟨a0, a1, a2, a3⟩ := cells2 (hb45.ext (trans_drew hE))
      refine wp_hideK (fun K' hK => ?_)
      go_wp2_with fail
      exact ⟨rfl, Below.refl _ _, (phi_iff ph2).2 rfl⟩
    · intro vs w' hE hp
      have p1_3 : vs 1 = (.agg #[(.bool s1), (.slice a1 m47 c1)]) := (phi_iff ph1).1 (hp 1 rfl)
      have p2_3 : vs 2 = (.agg #[(.bool s0), (.slice a0 m28 c0)]) := (phi_iff ph2).1 (hp 2 rfl)
      simp only [Nat.reduceAdd, Act.put, List.setIfInBounds_toArray, List.set_cons_zero, List.set_cons_succ, p1_3, p2_3]
      refine ifW_pos (by rfl) ?_
      have h47 := h47.ext (trans_drew hE)
      have h28 := h28.ext (trans_drew hE)
      refine wp_hideK (fun K' hK => ?_)
      go_wp2_with fail
      refine (wCmp (v := (-v)) h47 h28 (by rw [cmpZ_turn, HV.out])).mono ?_
      rintro e w2 ⟨rfl, hb⟩
      go_wp2_with fail
      exact ⟨rfl, hb, (phi_iff ph3).2 rfl⟩
    · intro vs w' hE hp
      have p3_4 : vs 3 = (.int .i64 (-v)) := (phi_iff ph3).1 (hp 3 rfl)
      simp only [Nat.reduceAdd, Act.put, List.setIfInBounds_toArray, List.set_cons_zero, List.set_cons_succ, p3_4]
      refine ifW_pos (by rfl) ?_
      refine wp_hideK (fun K' hK => ?_)
      go_wp2_with fail
      exact ⟨rfl, Below.refl _ _, (phi_iff ph4).2 rfl⟩
    · intro vs w' hE hp
      have p0_5 : vs 0 = (.int .i64 v) := (phi_iff ph0).1 (hp 0 rfl)
      have p4_5 : vs 4 = (.int .i64 v) := (phi_iff ph4).1 (hp 4 rfl)
      simp only [Nat.reduceAdd, Act.put, List.setIfInBounds_toArray, List.set_cons_zero, List.set_cons_succ, p0_5, p4_5]
      refine ifW_pos (by rfl) ?_
      refine wp_hideK (fun K' hK => ?_)
      go_wp2_with fail
      exact ⟨rfl, Below.refl _ _, (phi_iff ph5).2 rfl⟩
    · intro vs w' hE hp
      have p5_6 : vs 5 = (.bool false) := (phi_iff ph5).1 (hp 5 rfl)
      simp only [Nat.reduceAdd, Act.put, List.setIfInBounds_toArray, List.set_cons_zero, List.set_cons_succ, p5_6]
      refine ifW_pos (by rfl) ?_
      refine wp_hideK (fun K' hK => ?_)
      go_wp2_with fail
      exact ⟨rfl, Below.refl _ _, (phi_iff ph6).2 rfl⟩
    · intro vs w' hE hp
      have p6_7 : vs 6 = (.bool false) := (phi_iff ph6).1 (hp 6 rfl)
      simp only [Nat.reduceAdd, Act.put, List.setIfInBounds_toArray, List.set_cons_zero, List.set_cons_succ, p6_7]
      refine ifW_pos (by rfl) ?_
      obtain ⟨a0, a1, a2, a3⟩ := cells2 (hb45.ext (trans_drew hE))
      refine wp_hideK (fun K' hK => ?_)
      go_wp2_with fail
      exact ⟨rfl, Below.refl _ _, (phi_iff ph7).2 rfl⟩
    · intro vs w' hE hp
      have p7_8 : vs 7 = (.agg #[(.bool s0), (.slice a0 m28 c0)]) := (phi_iff ph7).1 (hp 7 rfl)
      have p6_8 : vs 6 = (.bool false) := (phi_iff ph6).1 (hp 6 rfl)
      simp only [Nat.reduceAdd, Act.put, List.setIfInBounds_toArray, List.set_cons_zero, List.set_cons_succ, p7_8, p6_8]
      refine ifW_pos (by rfl) ?_
      have h28 := h28.ext (trans_drew hE)
      refine wp_hideK (fun K' hK => ?_)
      go_wp2_with fail
      refine (wNeg h28).mono ?_
      rintro e w2 ⟨r93, o93, n93, c93, rfl, h93, _, hb⟩
      go_wp2_with fail
      exact ⟨rfl, hb, (phi_iff ph8).2 ⟨_, _, _, _, rfl, h93.mono (by decide)⟩⟩
    · intro vs w' hE hp
      have p6_9 : vs 6 = (.bool false) := (phi_iff ph6).1 (hp 6 rfl)
      simp only [Nat.reduceAdd, Act.put, List.setIfInBounds_toArray, List.set_cons_zero, List.set_cons_succ, p6_9]
      refine ifW_pos (by rfl) ?_
      obtain ⟨a0, a1, a2, a3⟩ := cells2 (hb64.ext (trans_drew hE))
      refine wp_hideK (fun K' hK => ?_)
      go_wp2_with fail
      exact ⟨rfl, Below.refl _ _, (phi_iff ph9).2 rfl⟩
    · intro vs w' hE hp
      have p9_10 : vs 9 = (.agg #[(.bool s1), (.slice a1 m47 c1)]) := (phi_iff ph9).1 (hp 9 rfl)
      have p6_10 : vs 6 = (.bool false) := (phi_iff ph6).1 (hp 6 rfl)
      simp only [Nat.reduceAdd, Act.put, List.setIfInBounds_toArray, List.set_cons_zero, List.set_cons_succ, p9_10, p6_10]
      refine ifW_pos (by rfl) ?_
      have h47 := h47.ext (trans_drew hE)
      refine wp_hideK (fun K' hK => ?_)
      go_wp2_with fail
      refine (wNeg h47).mono ?_
      rintro e w2 ⟨r94, o94, n94, c94, rfl, h94, _, hb⟩
      go_wp2_with fail
      exact ⟨rfl, hb, (phi_iff ph10).2 ⟨_, _, _, _, rfl, h94.mono (by decide)⟩⟩
    · intro vs w' hE hp
      obtain ⟨r8_11, o8_11, n8_11, c8_11, p8_11, q8_11⟩ : ∃ r o n c, vs 8 = .agg #[.bool r, .slice o n c] ∧ Zn 6 w' r o n c (-z28) := (phi_iff ph8).1 (hp 8 rfl)
      obtain ⟨r10_11, o10_11, n10_11, c10_11, p10_11, q10_11⟩ : ∃ r o n c, vs 10 = .agg #[.bool r, .slice o n c] ∧ Zn 6 w' r o n c (-z47) := (phi_iff ph10).1 (hp 10 rfl)
      have p6_11 : vs 6 = (.bool false) := (phi_iff ph6).1 (hp 6 rfl)
      simp only [Nat.reduceAdd, Act.put, List.setIfInBounds_toArray, List.set_cons_zero, List.set_cons_succ, p8_11, p10_11, p6_11]
      refine ifW_pos (by rfl) ?_
      refine wp_hideK (fun K' hK => ?_)
      go_wp2_with fail
      refine (wCmp (v := (-v)) q8_11.any q10_11.any (by rw [cmpZ_negs, HV.out])).mono ?_
      rintro e w2 ⟨rfl, hb⟩
      go_wp2_with fail
      exact ⟨rfl, hb, (phi_iff ph11).2 rfl⟩
    · intro vs w' hE hp
      have p6_12 : vs 6 = (.bool false) := (phi_iff ph6).1 (hp 6 rfl)
      simp only [Nat.reduceAdd, Act.put, List.setIfInBounds_toArray, List.set_cons_zero, List.set_cons_succ, p6_12]
      refine ifW_pos (by rfl) ?_
      refine wp_hideK (fun K' hK => ?_)
      go_wp2_with fail
      exact ⟨rfl, Below.refl _ _, (phi_iff ph12).2 rfl⟩
    · intro vs w' hE hp
      have p12_13 : vs 12 = (.int .i64 v) := (phi_iff ph12).1 (hp 12 rfl)
      have p6_13 : vs 6 = (.bool false) := (phi_iff ph6).1 (hp 6 rfl)
      simp only [Nat.reduceAdd, Act.put, List.setIfInBounds_toArray, List.set_cons_zero, List.set_cons_succ, p12_13, p6_13]
      refine ifW_pos (by rfl) ?_
      refine wp_hideK (fun K' hK => ?_)
      go_wp2_with fail
      exact ⟨rfl, Below.refl _ _, (phi_iff ph13).2 rfl⟩
    · intro vs w' hE hp
      have p11_14 : vs 11 = (.int .i64 (-v)) := (phi_iff ph11).1 (hp 11 rfl)
      have p13_14 : vs 13 = (.int .i64 (-v)) := (phi_iff ph13).1 (hp 13 rfl)
      have p6_14 : vs 6 = (.bool false) := (phi_iff ph6).1 (hp 6 rfl)
      simp only [Nat.reduceAdd, Act.put, List.setIfInBounds_toArray, List.set_cons_zero, List.set_cons_succ, p11_14, p13_14, p6_14]
      refine ifW_pos (by rfl) ?_
      refine wp_hideK (fun K' hK => ?_)
      go_wp2_with fail
      exact ⟨rfl, Below.refl _ _, (phi_iff ph14).2 rfl⟩
    · intro vs w' hE hp
      have p6_15 : vs 6 = (.bool false) := (phi_iff ph6).1 (hp 6 rfl)
      have p14_15 : vs 14 = (.bool false) := (phi_iff ph14).1 (hp 14 rfl)
      simp only [Nat.reduceAdd, Act.put, List.setIfInBounds_toArray, List.set_cons_zero, List.set_cons_succ, p6_15, p14_15]
      refine ifW_pos (by rfl) ?_
      refine wp_hideK (fun K' hK => ?_)
      go_wp2_with fail
      exact ⟨rfl, Below.refl _ _, (phi_iff ph15).2 rfl⟩
    · intro vs w' hE hp
      have p15_16 : vs 15 = (.bool false) := (phi_iff ph15).1 (hp 15 rfl)
      simp only [Nat.reduceAdd, Act.put, List.setIfInBounds_toArray, List.set_cons_zero, List.set_cons_succ, p15_16]
      refine ifW_pos (by rfl) ?_
      refine wp_hideK (fun K' hK => ?_)
      go_wp2_with fail
      exact ⟨rfl, Below.refl _ _, (phi_iff ph16).2 rfl⟩
    · intro vs w' hE hp
      have p16_17 : vs 16 = (.bool false) := (phi_iff ph16).1 (hp 16 rfl)
      simp only [Nat.reduceAdd, Act.put, List.setIfInBounds_toArray, List.set_cons_zero, List.set_cons_succ, p16_17]
      refine ifW_pos (by rfl) ?_
      obtain ⟨a0, a1, a2, a3⟩ := cells2 (hb45.ext (trans_drew hE))
      refine wp_hideK (fun K' hK => ?_)
      go_wp2_with fail
      exact ⟨rfl, Below.refl _ _, (phi_iff ph17).2 rfl⟩
    · intro vs w' hE hp
      have p16_18 : vs 16 = (.bool false) := (phi_iff ph16).1 (hp 16 rfl)
      simp only [Nat.reduceAdd, Act.put, List.setIfInBounds_toArray, List.set_cons_zero, List.set_cons_succ, p16_18]
      refine ifW_pos (by rfl) ?_
      obtain ⟨a0, a1, a2, a3⟩ := cells2 (hb89.ext (trans_drew hE))
      refine wp_hideK (fun K' hK => ?_)
      go_wp2_with fail
      exact ⟨rfl, Below.refl _ _, (phi_iff ph18).2 rfl⟩
    · intro vs w' hE hp
      have p17_19 : vs 17 = (.agg #[(.bool s0), (.slice a0 m28 c0)]) := (phi_iff ph17).1 (hp 17 rfl)
      have p18_19 : vs 18 = (.agg #[(.bool s2), (.slice a2 m66 c2)]) := (phi_iff ph18).1 (hp 18 rfl)
      have p16_19 : vs 16 = (.bool false) := (phi_iff ph16).1 (hp 16 rfl)
      simp only [Nat.reduceAdd, Act.put, List.setIfInBounds_toArray, List.set_cons_zero, List.set_cons_succ, p17_19, p18_19, p16_19]
      refine ifW_pos (by rfl) ?_
      have h28 := h28.ext (trans_drew hE)
      have h66 := h66.ext (trans_drew hE)
      refine wp_hideK (fun K' hK => ?_)
      go_wp2_with fail
      refine (wAdd h28 h66).mono ?_
      rintro e w2 ⟨r95, o95, n95, c95, rfl, h95, _, hb⟩
      go_wp2_with fail
      exact ⟨rfl, hb, (phi_iff ph19).2 ⟨_, _, _, _, rfl, h95.mono (by decide)⟩⟩
    · intro vs w' hE hp
      have p16_20 : vs 16 = (.bool false) := (phi_iff ph16).1 (hp 16 rfl)
      simp only [Nat.reduceAdd, Act.put, List.setIfInBounds_toArray, List.set_cons_zero, List.set_cons_succ, p16_20]
      refine ifW_pos (by rfl) ?_
      obtain ⟨a0, a1, a2, a3⟩ := cells2 (hb64.ext (trans_drew hE))
      refine wp_hideK (fun K' hK => ?_)
      go_wp2_with fail
      exact ⟨rfl, Below.refl _ _, (phi_iff ph20).2 rfl⟩
    · intro vs w' hE hp
      have p16_21 : vs 16 = (.bool false) := (phi_iff ph16).1 (hp 16 rfl)
      simp only [Nat.reduceAdd, Act.put, List.setIfInBounds_toArray, List.set_cons_zero, List.set_cons_succ, p16_21]
      refine ifW_pos (by rfl) ?_
      obtain ⟨a0, a1, a2, a3⟩ := cells2 (hb89.ext (trans_drew hE))
      refine wp_hideK (fun K' hK => ?_)
      go_wp2_with fail
      exact ⟨rfl, Below.refl _ _, (phi_iff ph21).2 rfl⟩
    · intro vs w' hE hp
      have p20_22 : vs 20 = (.agg #[(.bool s1), (.slice a1 m47 c1)]) := (phi_iff ph20).1 (hp 20 rfl)
      have p21_22 : vs 21 = (.agg #[(.bool s2), (.slice a2 m66 c2)]) := (phi_iff ph21).1 (hp 21 rfl)
      have p16_22 : vs 16 = (.bool false) := (phi_iff ph16).1 (hp 16 rfl)
      simp only [Nat.reduceAdd, Act.put, List.setIfInBounds_toArray, List.set_cons_zero, List.set_cons_succ, p20_22, p21_22, p16_22]
      refine ifW_pos (by rfl) ?_
      have h47 := h47.ext (trans_drew hE)
      have h66 := h66.ext (trans_drew hE)
      refine wp_hideK (fun K' hK => ?_)
      go_wp2_with fail
      refine (wAdd h47 h66).mono ?_
      rintro e w2 ⟨r96, o96, n96, c96, rfl, h96, _, hb⟩
      go_wp2_with fail
      exact ⟨rfl, hb, (phi_iff ph22).2 ⟨_, _, _, _, rfl, h96.mono (by decide)⟩⟩
    · intro vs w' hE hp
      obtain ⟨r19_23, o19_23, n19_23, c19_23, p19_23, q19_23⟩ : ∃ r o n c, vs 19 = .agg #[.bool r, .slice o n c] ∧ Zn 7 w' r o n c (z28 + z66) := (phi_iff ph19).1 (hp 19 rfl)
      obtain ⟨r22_23, o22_23, n22_23, c22_23, p22_23, q22_23⟩ : ∃ r o n c, vs 22 = .agg #[.bool r, .slice o n c] ∧ Zn 7 w' r o n c (z47 + z66) := (phi_iff ph22).1 (hp 22 rfl)
      have p16_23 : vs 16 = (.bool false) := (phi_iff ph16).1 (hp 16 rfl)
      simp only [Nat.reduceAdd, Act.put, List.setIfInBounds_toArray, List.set_cons_zero, List.set_cons_succ, p19_23, p22_23, p16_23]
      refine ifW_pos (by rfl) ?_
      refine wp_hideK (fun K' hK => ?_)
      go_wp2_with fail
      refine (wCmp (v := v) q19_23.any q22_23.any (by rw [cmpZ_add, HV.out])).mono ?_
      rintro e w2 ⟨rfl, hb⟩
      go_wp2_with fail
      exact ⟨rfl, hb, (phi_iff ph23).2 rfl⟩
    · intro vs w' hE hp
      have p16_24 : vs 16 = (.bool false) := (phi_iff ph16).1 (hp 16 rfl)
      simp only [Nat.reduceAdd, Act.put, List.setIfInBounds_toArray, List.set_cons_zero, List.set_cons_succ, p16_24]
      refine ifW_pos (by rfl) ?_
      refine wp_hideK (fun K' hK => ?_)
      go_wp2_with fail
      exact ⟨rfl, Below.refl _ _, (phi_iff ph24).2 rfl⟩
    · intro vs w' hE hp
      have p23_25 : vs 23 = (.int .i64 v) := (phi_iff ph23).1 (hp 23 rfl)
      have p24_25 : vs 24 = (.int .i64 v) := (phi_iff ph24).1 (hp 24 rfl)
      have p16_25 : vs 16 = (.bool false) := (phi_iff ph16).1 (hp 16 rfl)
      simp only [Nat.reduceAdd, Act.put, List.setIfInBounds_toArray, List.set_cons_zero, List.set_cons_succ, p23_25, p24_25, p16_25]
      refine ifW_pos (by rfl) ?_
      refine wp_hideK (fun K' hK => ?_)
      go_wp2_with fail
      exact ⟨rfl, Below.refl _ _, (phi_iff ph25).2 rfl⟩
    · intro vs w' hE hp
      have p16_26 : vs 16 = (.bool false) := (phi_iff ph16).1 (hp 16 rfl)
      have p25_26 : vs 25 = (.bool false) := (phi_iff ph25).1 (hp 25 rfl)
      simp only [Nat.reduceAdd, Act.put, List.setIfInBounds_toArray, List.set_cons_zero, List.set_cons_succ, p16_26, p25_26]
      refine ifW_pos (by rfl) ?_
      refine wp_hideK (fun K' hK => ?_)
      go_wp2_with fail
      exact ⟨rfl, Below.refl _ _, (phi_iff ph26).2 rfl⟩
  · intro vs w97 hE hphi
    have p26e : vs 26 = (.bool false) := (phi_iff ph26).1 (hphi 26 (by decide))
    replace h0 := h0.ext (trans_drew hE)
    replace h1 := h1.ext (trans_drew hE)
    replace h2 := h2.ext (trans_drew hE)
    replace h28 := h28.ext (trans_drew hE)
    replace k28 := k28.ext (trans_drew hE)
    replace h47 := h47.ext (trans_drew hE)
    replace k47 := k47.ext (trans_drew hE)
    replace h66 := h66.ext (trans_drew hE)
    replace k66 := k66.ext (trans_drew hE)
    replace hb45 := hb45.ext (trans_drew hE)
    replace hb64 := hb64.ext (trans_drew hE)
    replace hb89 := hb89.ext (trans_drew hE)
    replace hB := ext_trans hB (trans_drew hE)
    clear hphi hE ph0 ph1 ph2 ph3 ph4 ph5 ph6 ph7 ph8 ph9 ph10 ph11 ph12 ph13 ph14 ph15 ph16 ph17 ph18 ph19 ph20 ph21 ph22 ph23 ph24 ph25 ph26
    simp only [putsR, List.take_succ_cons, List.take_zero, List.drop_succ_cons, List.drop_zero, List.drop_nil, Nat.reduceAdd, Act.put, List.setIfInBounds_toArray, List.set_cons_zero, List.set_cons_succ, p26e]
    clear p26e
    obtain ⟨sg, hsg⟩ : ∃ v, Int.sign z66 = v := ⟨_, rfl⟩
    have hs1 : -1 ≤ sg ∧ sg ≤ 1 := by rw [← hsg, ← sign_zero_cmp]; exact cmpZ_bounds _ _
    obtain ⟨hs1, hs2⟩ := hs1
    have hm := mul_unit hv1 hv2 hs1 hs2
    obtain ⟨hm1, hm2⟩ := hm
    have hmw := wrap_small hm1 hm2
    obtain ⟨ab, hab⟩ : ∃ v, Int.sign (Int.natAbs z28 : Int) = v := ⟨_, rfl⟩
    have hab0 : 0 ≤ ab := by rw [← hab]; exact abs_sign _
    have had : decide (0 ≤ ab) = true := decide_eq_true hab0
    have HS := hid hsg; have HA := hid hab; clear hsg hab
    obtain ⟨a98, a99, f100, f101⟩ := cells2 hb89
    have l102 := hb89.lt
    go_wp2_with fail
    clear a98 a99 f100 f101 l102
    refine (wNorm h66).mono ?_
    rintro e w104 ⟨r103, o103, n103, c103, rfl, h103, _, hb105⟩
    replace h0 := h0.ext hb105
    replace h1 := h1.ext hb105
    replace h2 := h2.ext hb105
    replace h28 := h28.ext hb105
    replace k28 := k28.ext hb105
    replace h47 := h47.ext hb105
    replace k47 := k47.ext hb105
    replace h66 := h66.ext hb105
    replace k66 := k66.ext hb105
    replace hb45 := hb45.ext hb105
    replace hb64 := hb64.ext hb105
    replace hb89 := hb89.ext hb105
    replace hB := ext_trans hB hb105
    clear hb105
    go_wp2_with fail
    refine (aSign (v := sg) h103 (HS.out)).mono ?_
    rintro e w106 ⟨rfl, hb107⟩
    replace h0 := h0.ext hb107
    replace h1 := h1.ext hb107
    replace h2 := h2.ext hb107
    replace h28 := h28.ext hb107
    replace k28 := k28.ext hb107
    replace h47 := h47.ext hb107
    replace k47 := k47.ext hb107
    replace h66 := h66.ext hb107
    replace k66 := k66.ext hb107
    replace h103 := h103.ext hb107
    replace hb45 := hb45.ext hb107
    replace hb64 := hb64.ext hb107
    replace hb89 := hb89.ext hb107
    replace hB := ext_trans hB hb107
    clear hb107
    go_wp2_with fail
    obtain ⟨Φs, hΦ⟩ : ∃ Φ : List PV, Φ = [PV.eq (.agg #[(.bool s0), (.slice a0 m28 c0)]), PV.eq (.agg #[(.bool s2), (.slice a2 m66 c2)]), PV.zn 12 (z28 * z66), PV.eq (.agg #[(.bool s1), (.slice a1 m47 c1)]), PV.eq (.agg #[(.bool s2), (.slice a2 m66 c2)]), PV.zn 12 (z47 * z66), PV.eq (.int .i64 (v * sg)), PV.eq (.int .i64 v), PV.eq (.int .i64 sg), PV.eq (.int .i64 (v * sg)), PV.eq (.bool true), PV.eq (.bool true), PV.eq (.agg #[(.bool s0), (.slice a0 m28 c0)]), PV.zn 6 (Int.natAbs z28 : Int), PV.eq (.int .i64 ab), PV.eq (.bool true), PV.eq (.bool true), PV.eq (.bool true), PV.eq (.agg #[(.bool s0), (.slice a0 m28 c0)]), PV.eq (.agg #[(.bool s1), (.slice a1 m47 c1)]), PV.zn 7 (z28 - z47), PV.eq (.int .i64 v), PV.eq (.int .i64 v), PV.eq (.bool true), PV.eq (.bool true), PV.eq (.bool true), PV.eq (.agg #[(.bool s0), (.slice a0 m28 c0)]), PV.zn 6 (Int.natAbs z28 : Int), PV.eq (.agg #[(.bool s0), (.slice a0 m28 c0)]), PV.zn 6 (-z28), PV.zn 6 (Int.natAbs (-z28) : Int), PV.eq (.int .i64 0), PV.eq (.bool true), PV.eq (.bool true), PV.eq (.bool true), PV.eq (.bool true), PV.eq (.bool true), PV.eq (.bool true)] := ⟨_, rfl⟩
    have ph0 : Φs[0]? = some (PV.eq (.agg #[(.bool s0), (.slice a0 m28 c0)])) := by rw [hΦ]; rfl
    have ph1 : Φs[1]? = some (PV.eq (.agg #[(.bool s2), (.slice a2 m66 c2)])) := by rw [hΦ]; rfl
    have ph2 : Φs[2]? = some (PV.zn 12 (z28 * z66)) := by rw [hΦ]; rfl
    have ph3 : Φs[3]? = some (PV.eq (.agg #[(.bool s1), (.slice a1 m47 c1)])) := by rw [hΦ]; rfl
    have ph4 : Φs[4]? = some (PV.eq (.agg #[(.bool s2), (.slice a2 m66 c2)])) := by rw [hΦ]; rfl
    have ph5 : Φs[5]? = some (PV.zn 12 (z47 * z66)) := by rw [hΦ]; rfl
    have ph6 : Φs[6]? = some (PV.eq (.int .i64 (v * sg))) := by rw [hΦ]; rfl
    have ph7 : Φs[7]? = some (PV.eq (.int .i64 v)) := by rw [hΦ]; rfl
    have ph8 : Φs[8]? = some (PV.eq (.int .i64 sg)) := by rw [hΦ]; rfl
    have ph9 : Φs[9]? = some (PV.eq (.int .i64 (v * sg))) := by rw [hΦ]; rfl
    have ph10 : Φs[10]? = some (PV.eq (.bool true)) := by rw [hΦ]; rfl
    have ph11 : Φs[11]? = some (PV.eq (.bool true)) := by rw [hΦ]; rfl
    have ph12 : Φs[12]? = some (PV.eq (.agg #[(.bool s0), (.slice a0 m28 c0)])) := by rw [hΦ]; rfl
    have ph13 : Φs[13]? = some (PV.zn 6 (Int.natAbs z28 : Int)) := by rw [hΦ]; rfl
    have ph14 : Φs[14]? = some (PV.eq (.int .i64 ab)) := by rw [hΦ]; rfl
    have ph15 : Φs[15]? = some (PV.eq (.bool true)) := by rw [hΦ]; rfl
    have ph16 : Φs[16]? = some (PV.eq (.bool true)) := by rw [hΦ]; rfl
    have ph17 : Φs[17]? = some (PV.eq (.bool true)) := by rw [hΦ]; rfl
    have ph18 : Φs[18]? = some (PV.eq (.agg #[(.bool s0), (.slice a0 m28 c0)])) := by rw [hΦ]; rfl
    have ph19 : Φs[19]? = some (PV.eq (.agg #[(.bool s1), (.slice a1 m47 c1)])) := by rw [hΦ]; rfl
    have ph20 : Φs[20]? = some (PV.zn 7 (z28 - z47)) := by rw [hΦ]; rfl
    have ph21 : Φs[21]? = some (PV.eq (.int .i64 v)) := by rw [hΦ]; rfl
    have ph22 : Φs[22]? = some (PV.eq (.int .i64 v)) := by rw [hΦ]; rfl
    have ph23 : Φs[23]? = some (PV.eq (.bool true)) := by rw [hΦ]; rfl
    have ph24 : Φs[24]? = some (PV.eq (.bool true)) := by rw [hΦ]; rfl
    have ph25 : Φs[25]? = some (PV.eq (.bool true)) := by rw [hΦ]; rfl
    have ph26 : Φs[26]? = some (PV.eq (.agg #[(.bool s0), (.slice a0 m28 c0)])) := by rw [hΦ]; rfl
    have ph27 : Φs[27]? = some (PV.zn 6 (Int.natAbs z28 : Int)) := by rw [hΦ]; rfl
    have ph28 : Φs[28]? = some (PV.eq (.agg #[(.bool s0), (.slice a0 m28 c0)])) := by rw [hΦ]; rfl
    have ph29 : Φs[29]? = some (PV.zn 6 (-z28)) := by rw [hΦ]; rfl
    have ph30 : Φs[30]? = some (PV.zn 6 (Int.natAbs (-z28) : Int)) := by rw [hΦ]; rfl
    have ph31 : Φs[31]? = some (PV.eq (.int .i64 0)) := by rw [hΦ]; rfl
    have ph32 : Φs[32]? = some (PV.eq (.bool true)) := by rw [hΦ]; rfl
    have ph33 : Φs[33]? = some (PV.eq (.bool true)) := by rw [hΦ]; rfl
    have ph34 : Φs[34]? = some (PV.eq (.bool true)) := by rw [hΦ]; rfl
    have ph35 : Φs[35]? = some (PV.eq (.bool true)) := by rw [hΦ]; rfl
    have ph36 : Φs[36]? = some (PV.eq (.bool true)) := by rw [hΦ]; rfl
    have ph37 : Φs[37]? = some (PV.eq (.bool true)) := by rw [hΦ]; rfl
    clear hΦ
    refine wp_region_rel 38 94 Φs (by kernel_rfl) rfl rfl (by kernel_rfl) ?_ ?_
    · simp only [List.take_succ_cons, List.take_zero, stepsR]
      refine ⟨?_, ?_, ?_, ?_, ?_, ?_, ?_, ?_, ?_, ?_, ?_, ?_, ?_, ?_, ?_, ?_, ?_, ?_, ?_, ?_, ?_, ?_, ?_, ?_, ?_, ?_, ?_, ?_, ?_, ?_, ?_, ?_, ?_, ?_, ?_, ?_, ?_, ?_, trivial⟩
      · intro vs w' hE hp
        simp only [Nat.reduceAdd, Act.put, List.setIfInBounds_toArray, List.set_cons_zero, List.set_cons_succ]
        refine ifW_pos (by rfl) ?_
        obtain ⟨a0, a1, a2, a3⟩ := cells2 (hb45.ext (trans_drew hE))
        refine wp_hideK (fun K' hK => ?_)
        go_wp2_with fail
        exact ⟨rfl, Below.refl _ _, (phi_iff ph0).2 rfl⟩
      · intro vs w' hE hp
        simp only [Nat.reduceAdd, Act.put, List.setIfInBounds_toArray, List.set_cons_zero, List.set_cons_succ]
        refine ifW_pos (by rfl) ?_
        obtain ⟨a0, a1, a2, a3⟩ := cells2 (hb89.ext (trans_drew hE))
        refine wp_hideK (fun K' hK => ?_)
        go_wp2_with fail
        exact ⟨rfl, Below.refl _ _, (phi_iff ph1).2 rfl⟩
      · intro vs w' hE hp
        have p0_2 : vs 0 = (.agg #[(.bool s0), (.slice a0 m28 c0)]) := (phi_iff ph0).1 (hp 0 rfl)
        have p1_2 : vs 1 = (.agg #[(.bool s2), (.slice a2 m66 c2)]) := (phi_iff ph1).1 (hp 1 rfl)
        simp only [Nat.reduceAdd, Act.put, List.setIfInBounds_toArray, List.set_cons_zero, List.set_cons_succ, p0_2, p1_2]
        refine ifW_pos (by rfl) ?_
        have h28 := h28.ext (trans_drew hE)
        have h66 := h66.ext (trans_drew hE)
        refine wp_hideK (fun K' hK => ?_)
        go_wp2_with fail
        refine (wMul h28 h66).mono ?_
        rintro e w2 ⟨r108, o108, n108, c108, rfl, h108, _, hb⟩
        go_wp2_with fail
        exact ⟨rfl, hb, (phi_iff ph2).2 ⟨_, _, _, _, rfl, h108.mono (by decide)⟩⟩
      · intro vs w' hE hp
        simp only [Nat.reduceAdd, Act.put, List.setIfInBounds_toArray, List.set_cons_zero, List.set_cons_succ]
        refine ifW_pos (by rfl) ?_
        obtain ⟨a0, a1, a2, a3⟩ := cells2 (hb64.ext (trans_drew hE))
        refine wp_hideK (fun K' hK => ?_)
        go_wp2_with fail
        exact ⟨rfl, Below.refl _ _, (phi_iff ph3).2 rfl⟩
      · intro vs w' hE hp
        simp only [Nat.reduceAdd, Act.put, List.setIfInBounds_toArray, List.set_cons_zero, List.set_cons_succ]
        refine ifW_pos (by rfl) ?_
        obtain ⟨a0, a1, a2, a3⟩ := cells2 (hb89.ext (trans_drew hE))
        refine wp_hideK (fun K' hK => ?_)
        go_wp2_with fail
        exact ⟨rfl, Below.refl _ _, (phi_iff ph4).2 rfl⟩
      · intro vs w' hE hp
        have p3_5 : vs 3 = (.agg #[(.bool s1), (.slice a1 m47 c1)]) := (phi_iff ph3).1 (hp 3 rfl)
        have p4_5 : vs 4 = (.agg #[(.bool s2), (.slice a2 m66 c2)]) := (phi_iff ph4).1 (hp 4 rfl)
        simp only [Nat.reduceAdd, Act.put, List.setIfInBounds_toArray, List.set_cons_zero, List.set_cons_succ, p3_5, p4_5]
        refine ifW_pos (by rfl) ?_
        have h47 := h47.ext (trans_drew hE)
        have h66 := h66.ext (trans_drew hE)
        refine wp_hideK (fun K' hK => ?_)
        go_wp2_with fail
        refine (wMul h47 h66).mono ?_
        rintro e w2 ⟨r109, o109, n109, c109, rfl, h109, _, hb⟩
        go_wp2_with fail
        exact ⟨rfl, hb, (phi_iff ph5).2 ⟨_, _, _, _, rfl, h109.mono (by decide)⟩⟩
      · intro vs w' hE hp
        obtain ⟨r2_6, o2_6, n2_6, c2_6, p2_6, q2_6⟩ : ∃ r o n c, vs 2 = .agg #[.bool r, .slice o n c] ∧ Zn 12 w' r o n c (z28 * z66) := (phi_iff ph2).1 (hp 2 rfl)
        obtain ⟨r5_6, o5_6, n5_6, c5_6, p5_6, q5_6⟩ : ∃ r o n c, vs 5 = .agg #[.bool r, .slice o n c] ∧ Zn 12 w' r o n c (z47 * z66) := (phi_iff ph5).1 (hp 5 rfl)
        simp only [Nat.reduceAdd, Act.put, List.setIfInBounds_toArray, List.set_cons_zero, List.set_cons_succ, p2_6, p5_6]
        refine ifW_pos (by rfl) ?_
        refine wp_hideK (fun K' hK => ?_)
        go_wp2_with fail
        refine (wCmp (v := (v * sg)) q2_6.any q5_6.any (by rw [cmpZ_mul, HV.out, HS.out])).mono ?_
        rintro e w2 ⟨rfl, hb⟩
        go_wp2_with fail
        exact ⟨rfl, hb, (phi_iff ph6).2 rfl⟩
      · intro vs w' hE hp
        simp only [Nat.reduceAdd, Act.put, List.setIfInBounds_toArray, List.set_cons_zero, List.set_cons_succ]
        refine ifW_pos (by rfl) ?_
        refine wp_hideK (fun K' hK => ?_)
        go_wp2_with fail
        exact ⟨rfl, Below.refl _ _, (phi_iff ph7).2 rfl⟩
      · intro vs w' hE hp
        simp only [Nat.reduceAdd, Act.put, List.setIfInBounds_toArray, List.set_cons_zero, List.set_cons_succ]
        refine ifW_pos (by rfl) ?_
        refine wp_hideK (fun K' hK => ?_)
        go_wp2_with fail
        exact ⟨rfl, Below.refl _ _, (phi_iff ph8).2 rfl⟩
      · intro vs w' hE hp
        have p7_9 : vs 7 = (.int .i64 v) := (phi_iff ph7).1 (hp 7 rfl)
        have p8_9 : vs 8 = (.int .i64 sg) := (phi_iff ph8).1 (hp 8 rfl)
        simp only [Nat.reduceAdd, Act.put, List.setIfInBounds_toArray, List.set_cons_zero, List.set_cons_succ, p7_9, p8_9]
        refine ifW_pos (by rfl) ?_
        refine wp_hideK (fun K' hK => ?_)
        go_wp2_with fail
        exact ⟨rfl, Below.refl _ _, (phi_iff ph9).2 rfl⟩
      · intro vs w' hE hp
        have p6_10 : vs 6 = (.int .i64 (v * sg)) := (phi_iff ph6).1 (hp 6 rfl)
        have p9_10 : vs 9 = (.int .i64 (v * sg)) := (phi_iff ph9).1 (hp 9 rfl)
        simp only [Nat.reduceAdd, Act.put, List.setIfInBounds_toArray, List.set_cons_zero, List.set_cons_succ, p6_10, p9_10]
        refine ifW_pos (by rfl) ?_
        refine wp_hideK (fun K' hK => ?_)
        go_wp2_with fail
        exact ⟨rfl, Below.refl _ _, (phi_iff ph10).2 rfl⟩
      · intro vs w' hE hp
        have p10_11 : vs 10 = (.bool true) := (phi_iff ph10).1 (hp 10 rfl)
        simp only [Nat.reduceAdd, Act.put, List.setIfInBounds_toArray, List.set_cons_zero, List.set_cons_succ, p10_11]
        refine ifW_pos (by rfl) ?_
        refine wp_hideK (fun K' hK => ?_)
        go_wp2_with fail
        exact ⟨rfl, Below.refl _ _, (phi_iff ph11).2 rfl⟩
      · intro vs w' hE hp
        have p11_12 : vs 11 = (.bool true) := (phi_iff ph11).1 (hp 11 rfl)
        simp only [Nat.reduceAdd, Act.put, List.setIfInBounds_toArray, List.set_cons_zero, List.set_cons_succ, p11_12]
        refine ifW_pos (by rfl) ?_
        obtain ⟨a0, a1, a2, a3⟩ := cells2 (hb45.ext (trans_drew hE))
        refine wp_hideK (fun K' hK => ?_)
        go_wp2_with fail
        exact ⟨rfl, Below.refl _ _, (phi_iff ph12).2 rfl⟩
      · intro vs w' hE hp
        have p12_13 : vs 12 = (.agg #[(.bool s0), (.slice a0 m28 c0)]) := (phi_iff ph12).1 (hp 12 rfl)
        have p11_13 : vs 11 = (.bool true) := (phi_iff ph11).1 (hp 11 rfl)
        simp only [Nat.reduceAdd, Act.put, List.setIfInBounds_toArray, List.set_cons_zero, List.set_cons_succ, p12_13, p11_13]
        refine ifW_pos (by rfl) ?_
        have h28 := h28.ext (trans_drew hE)
        refine wp_hideK (fun K' hK => ?_)
        go_wp2_with fail
        refine (wAbs h28).mono ?_
        rintro e w2 ⟨r110, o110, n110, c110, rfl, h110, _, hb⟩
        go_wp2_with fail
        exact ⟨rfl, hb, (phi_iff ph13).2 ⟨_, _, _, _, rfl, h110.mono (by decide)⟩⟩
      · intro vs w' hE hp
        obtain ⟨r13_14, o13_14, n13_14, c13_14, p13_14, q13_14⟩ : ∃ r o n c, vs 13 = .agg #[.bool r, .slice o n c] ∧ Zn 6 w' r o n c (Int.natAbs z28 : Int) := (phi_iff ph13).1 (hp 13 rfl)
        have p11_14 : vs 11 = (.bool true) := (phi_iff ph11).1 (hp 11 rfl)
        simp only [Nat.reduceAdd, Act.put, List.setIfInBounds_toArray, List.set_cons_zero, List.set_cons_succ, p13_14, p11_14]
        refine ifW_pos (by rfl) ?_
        refine wp_hideK (fun K' hK => ?_)
        go_wp2_with fail
        refine (aSign (v := ab) q13_14 (HA.out)).mono ?_
        rintro e w2 ⟨rfl, hb⟩
        go_wp2_with fail
        exact ⟨rfl, hb, (phi_iff ph14).2 rfl⟩
      · intro vs w' hE hp
        have p14_15 : vs 14 = (.int .i64 ab) := (phi_iff ph14).1 (hp 14 rfl)
        have p11_15 : vs 11 = (.bool true) := (phi_iff ph11).1 (hp 11 rfl)
        simp only [Nat.reduceAdd, Act.put, List.setIfInBounds_toArray, List.set_cons_zero, List.set_cons_succ, p14_15, p11_15]
        refine ifW_pos (by rfl) ?_
        refine wp_hideK (fun K' hK => ?_)
        go_wp2_with fail
        exact ⟨rfl, Below.refl _ _, (phi_iff ph15).2 rfl⟩
      · intro vs w' hE hp
        have p11_16 : vs 11 = (.bool true) := (phi_iff ph11).1 (hp 11 rfl)
        have p15_16 : vs 15 = (.bool true) := (phi_iff ph15).1 (hp 15 rfl)
        simp only [Nat.reduceAdd, Act.put, List.setIfInBounds_toArray, List.set_cons_zero, List.set_cons_succ, p11_16, p15_16]
        refine ifW_pos (by rfl) ?_
        refine wp_hideK (fun K' hK => ?_)
        go_wp2_with fail
        exact ⟨rfl, Below.refl _ _, (phi_iff ph16).2 rfl⟩
      · intro vs w' hE hp
        have p16_17 : vs 16 = (.bool true) := (phi_iff ph16).1 (hp 16 rfl)
        simp only [Nat.reduceAdd, Act.put, List.setIfInBounds_toArray, List.set_cons_zero, List.set_cons_succ, p16_17]
        refine ifW_pos (by rfl) ?_
        refine wp_hideK (fun K' hK => ?_)
        go_wp2_with fail
        exact ⟨rfl, Below.refl _ _, (phi_iff ph17).2 rfl⟩
      · intro vs w' hE hp
        have p17_18 : vs 17 = (.bool true) := (phi_iff ph17).1 (hp 17 rfl)
        simp only [Nat.reduceAdd, Act.put, List.setIfInBounds_toArray, List.set_cons_zero, List.set_cons_succ, p17_18]
        refine ifW_pos (by rfl) ?_
        obtain ⟨a0, a1, a2, a3⟩ := cells2 (hb45.ext (trans_drew hE))
        refine wp_hideK (fun K' hK => ?_)
        go_wp2_with fail
        exact ⟨rfl, Below.refl _ _, (phi_iff ph18).2 rfl⟩
      · intro vs w' hE hp
        have p17_19 : vs 17 = (.bool true) := (phi_iff ph17).1 (hp 17 rfl)
        simp only [Nat.reduceAdd, Act.put, List.setIfInBounds_toArray, List.set_cons_zero, List.set_cons_succ, p17_19]
        refine ifW_pos (by rfl) ?_
        obtain ⟨a0, a1, a2, a3⟩ := cells2 (hb64.ext (trans_drew hE))
        refine wp_hideK (fun K' hK => ?_)
        go_wp2_with fail
        exact ⟨rfl, Below.refl _ _, (phi_iff ph19).2 rfl⟩
      · intro vs w' hE hp
        have p18_20 : vs 18 = (.agg #[(.bool s0), (.slice a0 m28 c0)]) := (phi_iff ph18).1 (hp 18 rfl)
        have p19_20 : vs 19 = (.agg #[(.bool s1), (.slice a1 m47 c1)]) := (phi_iff ph19).1 (hp 19 rfl)
        have p17_20 : vs 17 = (.bool true) := (phi_iff ph17).1 (hp 17 rfl)
        simp only [Nat.reduceAdd, Act.put, List.setIfInBounds_toArray, List.set_cons_zero, List.set_cons_succ, p18_20, p19_20, p17_20]
        refine ifW_pos (by rfl) ?_
        have h28 := h28.ext (trans_drew hE)
        have h47 := h47.ext (trans_drew hE)
        refine wp_hideK (fun K' hK => ?_)
        go_wp2_with fail
        refine (wSub h28 h47).mono ?_
        rintro e w2 ⟨r111, o111, n111, c111, rfl, h111, hb⟩
        go_wp2_with fail
        exact ⟨rfl, hb, (phi_iff ph20).2 ⟨_, _, _, _, rfl, h111.mono (by decide)⟩⟩
      · intro vs w' hE hp
        obtain ⟨r20_21, o20_21, n20_21, c20_21, p20_21, q20_21⟩ : ∃ r o n c, vs 20 = .agg #[.bool r, .slice o n c] ∧ Zn 7 w' r o n c (z28 - z47) := (phi_iff ph20).1 (hp 20 rfl)
        have p17_21 : vs 17 = (.bool true) := (phi_iff ph17).1 (hp 17 rfl)
        simp only [Nat.reduceAdd, Act.put, List.setIfInBounds_toArray, List.set_cons_zero, List.set_cons_succ, p20_21, p17_21]
        refine ifW_pos (by rfl) ?_
        refine wp_hideK (fun K' hK => ?_)
        go_wp2_with fail
        refine (aSign (v := v) q20_21 (by rw [sign_sub, HV.out])).mono ?_
        rintro e w2 ⟨rfl, hb⟩
        go_wp2_with fail
        exact ⟨rfl, hb, (phi_iff ph21).2 rfl⟩
      · intro vs w' hE hp
        have p17_22 : vs 17 = (.bool true) := (phi_iff ph17).1 (hp 17 rfl)
        simp only [Nat.reduceAdd, Act.put, List.setIfInBounds_toArray, List.set_cons_zero, List.set_cons_succ, p17_22]
        refine ifW_pos (by rfl) ?_
        refine wp_hideK (fun K' hK => ?_)
        go_wp2_with fail
        exact ⟨rfl, Below.refl _ _, (phi_iff ph22).2 rfl⟩
      · intro vs w' hE hp
        have p21_23 : vs 21 = (.int .i64 v) := (phi_iff ph21).1 (hp 21 rfl)
        have p22_23 : vs 22 = (.int .i64 v) := (phi_iff ph22).1 (hp 22 rfl)
        have p17_23 : vs 17 = (.bool true) := (phi_iff ph17).1 (hp 17 rfl)
        simp only [Nat.reduceAdd, Act.put, List.setIfInBounds_toArray, List.set_cons_zero, List.set_cons_succ, p21_23, p22_23, p17_23]
        refine ifW_pos (by rfl) ?_
        refine wp_hideK (fun K' hK => ?_)
        go_wp2_with fail
        exact ⟨rfl, Below.refl _ _, (phi_iff ph23).2 rfl⟩
      · intro vs w' hE hp
        have p17_24 : vs 17 = (.bool true) := (phi_iff ph17).1 (hp 17 rfl)
        have p23_24 : vs 23 = (.bool true) := (phi_iff ph23).1 (hp 23 rfl)
        simp only [Nat.reduceAdd, Act.put, List.setIfInBounds_toArray, List.set_cons_zero, List.set_cons_succ, p17_24, p23_24]
        refine ifW_pos (by rfl) ?_
        refine wp_hideK (fun K' hK => ?_)
        go_wp2_with fail
        exact ⟨rfl, Below.refl _ _, (phi_iff ph24).2 rfl⟩
      · intro vs w' hE hp
        have p24_25 : vs 24 = (.bool true) := (phi_iff ph24).1 (hp 24 rfl)
        simp only [Nat.reduceAdd, Act.put, List.setIfInBounds_toArray, List.set_cons_zero, List.set_cons_succ, p24_25]
        refine ifW_pos (by rfl) ?_
        refine wp_hideK (fun K' hK => ?_)
        go_wp2_with fail
        exact ⟨rfl, Below.refl _ _, (phi_iff ph25).2 rfl⟩
      · intro vs w' hE hp
        have p25_26 : vs 25 = (.bool true) := (phi_iff ph25).1 (hp 25 rfl)
        simp only [Nat.reduceAdd, Act.put, List.setIfInBounds_toArray, List.set_cons_zero, List.set_cons_succ, p25_26]
        refine ifW_pos (by rfl) ?_
        obtain ⟨a0, a1, a2, a3⟩ := cells2 (hb45.ext (trans_drew hE))
        refine wp_hideK (fun K' hK => ?_)
        go_wp2_with fail
        exact ⟨rfl, Below.refl _ _, (phi_iff ph26).2 rfl⟩
      · intro vs w' hE hp
        have p26_27 : vs 26 = (.agg #[(.bool s0), (.slice a0 m28 c0)]) := (phi_iff ph26).1 (hp 26 rfl)
        have p25_27 : vs 25 = (.bool true) := (phi_iff ph25).1 (hp 25 rfl)
        simp only [Nat.reduceAdd, Act.put, List.setIfInBounds_toArray, List.set_cons_zero, List.set_cons_succ, p26_27, p25_27]
        refine ifW_pos (by rfl) ?_
        have h28 := h28.ext (trans_drew hE)
        refine wp_hideK (fun K' hK => ?_)
        go_wp2_with fail
        refine (wAbs h28).mono ?_
        rintro e w2 ⟨r112, o112, n112, c112, rfl, h112, _, hb⟩
        go_wp2_with fail
        exact ⟨rfl, hb, (phi_iff ph27).2 ⟨_, _, _, _, rfl, h112.mono (by decide)⟩⟩
      · intro vs w' hE hp
        have p25_28 : vs 25 = (.bool true) := (phi_iff ph25).1 (hp 25 rfl)
        simp only [Nat.reduceAdd, Act.put, List.setIfInBounds_toArray, List.set_cons_zero, List.set_cons_succ, p25_28]
        refine ifW_pos (by rfl) ?_
        obtain ⟨a0, a1, a2, a3⟩ := cells2 (hb45.ext (trans_drew hE))
        refine wp_hideK (fun K' hK => ?_)
        go_wp2_with fail
        exact ⟨rfl, Below.refl _ _, (phi_iff ph28).2 rfl⟩
      · intro vs w' hE hp
        have p28_29 : vs 28 = (.agg #[(.bool s0), (.slice a0 m28 c0)]) := (phi_iff ph28).1 (hp 28 rfl)
        have p25_29 : vs 25 = (.bool true) := (phi_iff ph25).1 (hp 25 rfl)
        simp only [Nat.reduceAdd, Act.put, List.setIfInBounds_toArray, List.set_cons_zero, List.set_cons_succ, p28_29, p25_29]
        refine ifW_pos (by rfl) ?_
        have h28 := h28.ext (trans_drew hE)
        refine wp_hideK (fun K' hK => ?_)
        go_wp2_with fail
        refine (wNeg h28).mono ?_
        rintro e w2 ⟨r113, o113, n113, c113, rfl, h113, _, hb⟩
        go_wp2_with fail
        exact ⟨rfl, hb, (phi_iff ph29).2 ⟨_, _, _, _, rfl, h113.mono (by decide)⟩⟩
      · intro vs w' hE hp
        obtain ⟨r29_30, o29_30, n29_30, c29_30, p29_30, q29_30⟩ : ∃ r o n c, vs 29 = .agg #[.bool r, .slice o n c] ∧ Zn 6 w' r o n c (-z28) := (phi_iff ph29).1 (hp 29 rfl)
        have p25_30 : vs 25 = (.bool true) := (phi_iff ph25).1 (hp 25 rfl)
        simp only [Nat.reduceAdd, Act.put, List.setIfInBounds_toArray, List.set_cons_zero, List.set_cons_succ, p29_30, p25_30]
        refine ifW_pos (by rfl) ?_
        refine wp_hideK (fun K' hK => ?_)
        go_wp2_with fail
        refine (wAbs q29_30.any).mono ?_
        rintro e w2 ⟨r114, o114, n114, c114, rfl, h114, _, hb⟩
        go_wp2_with fail
        exact ⟨rfl, hb, (phi_iff ph30).2 ⟨_, _, _, _, rfl, h114.mono (by decide)⟩⟩
      · intro vs w' hE hp
        obtain ⟨r27_31, o27_31, n27_31, c27_31, p27_31, q27_31⟩ : ∃ r o n c, vs 27 = .agg #[.bool r, .slice o n c] ∧ Zn 6 w' r o n c (Int.natAbs z28 : Int) := (phi_iff ph27).1 (hp 27 rfl)
        obtain ⟨r30_31, o30_31, n30_31, c30_31, p30_31, q30_31⟩ : ∃ r o n c, vs 30 = .agg #[.bool r, .slice o n c] ∧ Zn 6 w' r o n c (Int.natAbs (-z28) : Int) := (phi_iff ph30).1 (hp 30 rfl)
        have p25_31 : vs 25 = (.bool true) := (phi_iff ph25).1 (hp 25 rfl)
        simp only [Nat.reduceAdd, Act.put, List.setIfInBounds_toArray, List.set_cons_zero, List.set_cons_succ, p27_31, p30_31, p25_31]
        refine ifW_pos (by rfl) ?_
        refine wp_hideK (fun K' hK => ?_)
        go_wp2_with fail
        refine (wCmp (v := 0) q27_31.any q30_31.any (by rw [Int.natAbs_neg, cmpZ_same])).mono ?_
        rintro e w2 ⟨rfl, hb⟩
        go_wp2_with fail
        exact ⟨rfl, hb, (phi_iff ph31).2 rfl⟩
      · intro vs w' hE hp
        have p31_32 : vs 31 = (.int .i64 0) := (phi_iff ph31).1 (hp 31 rfl)
        have p25_32 : vs 25 = (.bool true) := (phi_iff ph25).1 (hp 25 rfl)
        simp only [Nat.reduceAdd, Act.put, List.setIfInBounds_toArray, List.set_cons_zero, List.set_cons_succ, p31_32, p25_32]
        refine ifW_pos (by rfl) ?_
        refine wp_hideK (fun K' hK => ?_)
        go_wp2_with fail
        exact ⟨rfl, Below.refl _ _, (phi_iff ph32).2 rfl⟩
      · intro vs w' hE hp
        have p25_33 : vs 25 = (.bool true) := (phi_iff ph25).1 (hp 25 rfl)
        have p32_33 : vs 32 = (.bool true) := (phi_iff ph32).1 (hp 32 rfl)
        simp only [Nat.reduceAdd, Act.put, List.setIfInBounds_toArray, List.set_cons_zero, List.set_cons_succ, p25_33, p32_33]
        refine ifW_pos (by rfl) ?_
        refine wp_hideK (fun K' hK => ?_)
        go_wp2_with fail
        exact ⟨rfl, Below.refl _ _, (phi_iff ph33).2 rfl⟩
      · intro vs w' hE hp
        have p33_34 : vs 33 = (.bool true) := (phi_iff ph33).1 (hp 33 rfl)
        simp only [Nat.reduceAdd, Act.put, List.setIfInBounds_toArray, List.set_cons_zero, List.set_cons_succ, p33_34]
        refine ifW_pos (by rfl) ?_
        refine wp_hideK (fun K' hK => ?_)
        go_wp2_with fail
        exact ⟨rfl, Below.refl _ _, (phi_iff ph34).2 rfl⟩
      · intro vs w' hE hp
        have p34_35 : vs 34 = (.bool true) := (phi_iff ph34).1 (hp 34 rfl)
        simp only [Nat.reduceAdd, Act.put, List.setIfInBounds_toArray, List.set_cons_zero, List.set_cons_succ, p34_35]
        refine ifW_pos (by rfl) ?_
        refine wp_hideK (fun K' hK => ?_)
        go_wp2_with fail
        refine (lwakes _).mono ?_
        rintro e w2 ⟨rfl, hb⟩
        go_wp2_with fail
        exact ⟨rfl, hb, (phi_iff ph35).2 rfl⟩
      · intro vs w' hE hp
        have p34_36 : vs 34 = (.bool true) := (phi_iff ph34).1 (hp 34 rfl)
        have p35_36 : vs 35 = (.bool true) := (phi_iff ph35).1 (hp 35 rfl)
        simp only [Nat.reduceAdd, Act.put, List.setIfInBounds_toArray, List.set_cons_zero, List.set_cons_succ, p34_36, p35_36]
        refine ifW_pos (by rfl) ?_
        refine wp_hideK (fun K' hK => ?_)
        go_wp2_with fail
        exact ⟨rfl, Below.refl _ _, (phi_iff ph36).2 rfl⟩
      · intro vs w' hE hp
        have p36_37 : vs 36 = (.bool true) := (phi_iff ph36).1 (hp 36 rfl)
        simp only [Nat.reduceAdd, Act.put, List.setIfInBounds_toArray, List.set_cons_zero, List.set_cons_succ, p36_37]
        refine ifW_pos (by rfl) ?_
        refine wp_hideK (fun K' hK => ?_)
        go_wp2_with fail
        exact ⟨rfl, Below.refl _ _, (phi_iff ph37).2 rfl⟩
    · intro vs w115 hE hphi
      have p37e : vs 37 = (.bool true) := (phi_iff ph37).1 (hphi 37 (by decide))
      replace h0 := h0.ext (trans_drew hE)
      replace h1 := h1.ext (trans_drew hE)
      replace h2 := h2.ext (trans_drew hE)
      replace h28 := h28.ext (trans_drew hE)
      replace k28 := k28.ext (trans_drew hE)
      replace h47 := h47.ext (trans_drew hE)
      replace k47 := k47.ext (trans_drew hE)
      replace h66 := h66.ext (trans_drew hE)
      replace k66 := k66.ext (trans_drew hE)
      replace h103 := h103.ext (trans_drew hE)
      replace hb45 := hb45.ext (trans_drew hE)
      replace hb64 := hb64.ext (trans_drew hE)
      replace hb89 := hb89.ext (trans_drew hE)
      replace hB := ext_trans hB (trans_drew hE)
      clear hphi hE ph0 ph1 ph2 ph3 ph4 ph5 ph6 ph7 ph8 ph9 ph10 ph11 ph12 ph13 ph14 ph15 ph16 ph17 ph18 ph19 ph20 ph21 ph22 ph23 ph24 ph25 ph26 ph27 ph28 ph29 ph30 ph31 ph32 ph33 ph34 ph35 ph36 ph37
      simp only [putsR, List.take_succ_cons, List.take_zero, List.drop_succ_cons, List.drop_zero, List.drop_nil, Nat.reduceAdd, Act.put, List.setIfInBounds_toArray, List.set_cons_zero, List.set_cons_succ, p37e]
      clear p37e
      go_wp2
      go_ret
      exact ⟨rfl, hB⟩

end Go.Proofs.Ytkcagkcphobmfaa
