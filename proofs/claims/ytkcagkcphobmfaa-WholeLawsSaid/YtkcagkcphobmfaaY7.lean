/-
  THE WALK OF THE STATEMENT: as numbers are.
-/
import Derived.Test.YtkcagkcphobmfaaZt
set_option linter.unusedVariables false
set_option linter.unusedSimpArgs false
namespace Go.Proofs.Ytkcagkcphobmfaa
open Go.RowKit

theorem wl_back (x y : Int) : x / y * y + x % y = x := by
  have h := Int.mul_ediv_add_emod x y
  rw [Int.mul_comm]; exact h
theorem wl_lt (x : Int) {y : Int} (hy : y ≠ 0) : cmpZ (x % y) (Int.natAbs y : Int) = -1 := by
  unfold cmpZ
  rw [if_pos (Int.emod_lt x hy)]
theorem wl_sign (x : Int) {y : Int} (hy : y ≠ 0) : 0 ≤ Int.sign (x % y) := by
  have := Int.emod_nonneg x hy
  rw [sign_ite]
  repeat' split
  all_goals omega
theorem wl_ne {x y : Int} (hy : y ≠ 0) : ((gcdL [x, y] : Nat) : Int) ≠ 0 := by
  rw [gcdL_2]
  intro h
  have h1 : Nat.gcd x.natAbs y.natAbs = 0 := by omega
  have := Nat.eq_zero_of_gcd_eq_zero_right h1
  omega
theorem wl_dvd1 (x y : Int) : x % ((gcdL [x, y] : Nat) : Int) = 0 := by
  rw [gcdL_2]
  exact Int.emod_eq_zero_of_dvd (Int.ofNat_dvd_left.2 (Nat.gcd_dvd_left _ _))
theorem wl_dvd2 (x y : Int) : y % ((gcdL [x, y] : Nat) : Int) = 0 := by
  rw [gcdL_2]
  exact Int.emod_eq_zero_of_dvd (Int.ofNat_dvd_left.2 (Nat.gcd_dvd_right _ _))
theorem wl_prime {x y : Int} (hy : y ≠ 0) : (1 : Int) = ((gcdL [x / ((gcdL [x, y] : Nat) : Int), y / ((gcdL [x, y] : Nat) : Int)] : Nat) : Int) := by
  have h0 := wl_ne (x := x) hy
  have h1 := Int.dvd_of_emod_eq_zero (wl_dvd1 x y)
  have h2 := Int.dvd_of_emod_eq_zero (wl_dvd2 x y)
  have hg : gcdL [x, y] = Nat.gcd x.natAbs y.natAbs := gcdL_2 x y
  generalize gcdL [x, y] = g at *
  obtain ⟨a, ha⟩ := h1
  obtain ⟨b, hb⟩ := h2
  subst ha; subst hb
  rw [Int.mul_ediv_cancel_left _ h0, Int.mul_ediv_cancel_left _ h0, gcdL_2]
  rw [Int.natAbs_mul, Int.natAbs_mul, Int.natAbs_natCast, Nat.gcd_mul_left] at hg
  have hg0 : 0 < g := by omega
  have h3 : g * 1 = g * Nat.gcd a.natAbs b.natAbs := by rw [Nat.mul_one]; exact hg
  have h4 := Nat.eq_of_mul_eq_mul_left hg0 h3
  rw [← h4]; rfl

set_option maxRecDepth 100000 in
set_option maxHeartbeats 8000000 in
theorem wholeLaws_walk {w : World} {s0 : Bool} {a0 : Option Addr} {n0 c0 : Nat} {x0 : Int} {s1 : Bool} {a1 : Option Addr} {n1 c1 : Nat} {x1 : Int} {s2 : Bool} {a2 : Option Addr} {n2 c2 : Nat} {x2 : Int} (h0 : Za 9223372036854775807 w s0 a0 n0 c0 x0) (h1 : Za 9223372036854775807 w s1 a1 n1 c1 x1) (h2 : Za 9223372036854775807 w s2 a2 n2 c2 x2) :
    Calls Try.prog 13 #[.agg #[.bool s0, .slice a0 n0 c0], .agg #[.bool s1, .slice a1 n1 c1], .agg #[.bool s2, .slice a2 n2 c2]] w (RetV (.bool true) w) := by
  go_enter Try.func13, Try.ntmps13
  have hB := Below.refl w.heap.size w
  go_wp2_with fail
  obtain ⟨w1, g2, hw3, hg4, hb5, al6, ge7, sz8⟩ := mk_alloc w [(.bool s0), (.slice a0 n0 c0)] 24 (N := w.heap.size) rfl
  rw [← hw3]
  have G9 := below_ge hB ge7
  replace hB := ext_trans hB al6
  replace h0 := h0.ext al6
  replace h1 := h1.ext al6
  replace h2 := h2.ext al6
  clear hw3 al6 ge7
  obtain ⟨w10, g11, hw12, hg13, hb14, al15, ge16, sz17⟩ := mk_alloc w1 [(.bool s1), (.slice a1 n1 c1)] 24 (N := w.heap.size + 1) sz8
  rw [← hw12]
  have Ng2_g11 := hb5.ne ge16
  have G18 := below_ge hB ge16
  replace hB := ext_trans hB al15
  replace h0 := h0.ext al15
  replace h1 := h1.ext al15
  replace h2 := h2.ext al15
  replace hb5 := hb5.ext al15
  clear hw12 al15 ge16
  obtain ⟨w19, g20, hw21, hg22, hb23, al24, ge25, sz26⟩ := mk_alloc w10 [(.bool s2), (.slice a2 n2 c2)] 24 (N := w.heap.size + 1 + 1) sz17
  rw [← hw21]
  have Ng2_g20 := hb5.ne ge25
  have Ng11_g20 := hb14.ne ge25
  have G27 := below_ge hB ge25
  replace hB := ext_trans hB al24
  replace h0 := h0.ext al24
  replace h1 := h1.ext al24
  replace h2 := h2.ext al24
  replace hb5 := hb5.ext al24
  replace hb14 := hb14.ext al24
  clear hw21 al24 ge25
  try rw [show w.heap.size + 2 = g20 from hg22.symm]
  try rw [← hg22]
  rw [← hg13]
  rw [← hg4]
  clear hg4 hg13 hg22 sz8 sz17 sz26
  refine (lof 8 h0).mono ?_
  rintro e w29 ⟨m28, z28, p28, q28, d28, r28, rfl, h28, k28, hb30⟩
  replace h0 := h0.ext hb30
  replace h1 := h1.ext hb30
  replace h2 := h2.ext hb30
  replace hb5 := hb5.ext hb30
  replace hb14 := hb14.ext hb30
  replace hb23 := hb23.ext hb30
  replace hB := ext_trans hB hb30
  clear hb30
  obtain ⟨a31, a32, f33, f34⟩ := cells2 hb5
  have l35 := hb5.lt
  obtain ⟨a36, a37, f38, f39⟩ := cells2 hb14
  have l40 := hb14.lt
  have Mg11_g2 := hid_ne Ng2_g11
  have e41 := Mg11_g2.out
  go_wp2_with fail
  clear a31 a32 f33 f34 l35 a36 a37 f38 f39 l40 e41
  obtain ⟨w42, hw43, hu44, hb45, sz46⟩ := mk_set2 hb5 (.bool s0) (.slice a0 m28 c0) (N := w29.heap.size) rfl
  rw [← hw43]
  replace h0 := h0.upd hb5 (noInt_zz _ _ _ _) hu44
  replace h1 := h1.upd hb5 (noInt_zz _ _ _ _) hu44
  replace h2 := h2.upd hb5 (noInt_zz _ _ _ _) hu44
  replace h28 := h28.upd hb5 (noInt_zz _ _ _ _) hu44
  replace k28 := k28.upd hb5 (noInt_zz _ _ _ _) hu44
  replace hB := below_upd hB G9.out hb5.lt hu44
  replace hb14 := hb14.upd Mg11_g2.out hu44
  have Mg20_g2 := hid_ne Ng2_g20
  replace hb23 := hb23.upd Mg20_g2.out hu44
  clear hw43 hu44 hb5
  clear sz46
  refine (lof 6 h1).mono ?_
  rintro e w48 ⟨m47, z47, p47, q47, d47, r47, rfl, h47, k47, hb49⟩
  replace h0 := h0.ext hb49
  replace h1 := h1.ext hb49
  replace h2 := h2.ext hb49
  replace h28 := h28.ext hb49
  replace k28 := k28.ext hb49
  replace hb45 := hb45.ext hb49
  replace hb14 := hb14.ext hb49
  replace hb23 := hb23.ext hb49
  replace hB := ext_trans hB hb49
  clear hb49
  obtain ⟨a50, a51, f52, f53⟩ := cells2 hb14
  have l54 := hb14.lt
  obtain ⟨a55, a56, f57, f58⟩ := cells2 hb23
  have l59 := hb23.lt
  have Mg20_g11 := hid_ne Ng11_g20
  have e60 := Mg20_g11.out
  go_wp2_with fail
  clear a50 a51 f52 f53 l54 a55 a56 f57 f58 l59 e60
  obtain ⟨w61, hw62, hu63, hb64, sz65⟩ := mk_set2 hb14 (.bool s1) (.slice a1 m47 c1) (N := w48.heap.size) rfl
  rw [← hw62]
  replace h0 := h0.upd hb14 (noInt_zz _ _ _ _) hu63
  replace h1 := h1.upd hb14 (noInt_zz _ _ _ _) hu63
  replace h2 := h2.upd hb14 (noInt_zz _ _ _ _) hu63
  replace h28 := h28.upd hb14 (noInt_zz _ _ _ _) hu63
  replace k28 := k28.upd hb14 (noInt_zz _ _ _ _) hu63
  replace h47 := h47.upd hb14 (noInt_zz _ _ _ _) hu63
  replace k47 := k47.upd hb14 (noInt_zz _ _ _ _) hu63
  replace hB := below_upd hB G18.out hb14.lt hu63
  replace hb45 := hb45.upd Ng2_g11.out hu63
  replace hb23 := hb23.upd Mg20_g11.out hu63
  clear hw62 hu63 hb14
  clear sz65
  refine (lof 6 h2).mono ?_
  rintro e w67 ⟨m66, z66, p66, q66, d66, r66, rfl, h66, k66, hb68⟩
  replace h0 := h0.ext hb68
  replace h1 := h1.ext hb68
  replace h2 := h2.ext hb68
  replace h28 := h28.ext hb68
  replace k28 := k28.ext hb68
  replace h47 := h47.ext hb68
  replace k47 := k47.ext hb68
  replace hb45 := hb45.ext hb68
  replace hb64 := hb64.ext hb68
  replace hb23 := hb23.ext hb68
  replace hB := ext_trans hB hb68
  clear hb68
  obtain ⟨a69, a70, f71, f72⟩ := cells2 hb23
  have l73 := hb23.lt
  go_wp2_with fail
  clear a69 a70 f71 f72 l73
  obtain ⟨w74, hw75, hu76, hb77, sz78⟩ := mk_set2 hb23 (.bool s2) (.slice a2 m66 c2) (N := w67.heap.size) rfl
  rw [← hw75]
  replace h0 := h0.upd hb23 (noInt_zz _ _ _ _) hu76
  replace h1 := h1.upd hb23 (noInt_zz _ _ _ _) hu76
  replace h2 := h2.upd hb23 (noInt_zz _ _ _ _) hu76
  replace h28 := h28.upd hb23 (noInt_zz _ _ _ _) hu76
  replace k28 := k28.upd hb23 (noInt_zz _ _ _ _) hu76
  replace h47 := h47.upd hb23 (noInt_zz _ _ _ _) hu76
  replace k47 := k47.upd hb23 (noInt_zz _ _ _ _) hu76
  replace h66 := h66.upd hb23 (noInt_zz _ _ _ _) hu76
  replace k66 := k66.upd hb23 (noInt_zz _ _ _ _) hu76
  replace hB := below_upd hB G27.out hb23.lt hu76
  replace hb45 := hb45.upd Ng2_g20.out hu76
  replace hb64 := hb64.upd Ng11_g20.out hu76
  clear hw75 hu76 hb23
  clear sz78
  obtain ⟨Φs, hΦ⟩ : ∃ Φ : List PV, Φ = [PV.eq (.agg #[(.bool s0), (.slice a0 m28 c0)]), PV.eq (.agg #[(.bool s1), (.slice a1 m47 c1)]), PV.eq (.agg #[(.bool s2), (.slice a2 m66 c2)]), PV.zn 7 (z47 + z66), PV.zn 15 (z28 * (z47 + z66)), PV.eq (.agg #[(.bool s0), (.slice a0 m28 c0)]), PV.eq (.agg #[(.bool s1), (.slice a1 m47 c1)]), PV.zn 14 (z28 * z47), PV.eq (.agg #[(.bool s0), (.slice a0 m28 c0)]), PV.eq (.agg #[(.bool s2), (.slice a2 m66 c2)]), PV.zn 14 (z28 * z66), PV.zn 15 ((z28 * z47) + (z28 * z66)), PV.eq (.int .i64 0), PV.eq (.bool false), PV.eq (.bool false), PV.eq (.agg #[(.bool s0), (.slice a0 m28 c0)]), PV.eq (.agg #[(.bool s1), (.slice a1 m47 c1)]), PV.zn 9 (z28 + z47), PV.eq (.agg #[(.bool s1), (.slice a1 m47 c1)]), PV.zn 10 ((z28 + z47) - z47), PV.eq (.agg #[(.bool s0), (.slice a0 m28 c0)]), PV.eq (.int .i64 0), PV.eq (.bool false), PV.eq (.bool false)] := ⟨_, rfl⟩
  have ph0 : Φs[0]? = some (PV.eq (.agg #[(.bool s0), (.slice a0 m28 c0)])) := by rw [hΦ]; rfl
  have ph1 : Φs[1]? = some (PV.eq (.agg #[(.bool s1), (.slice a1 m47 c1)])) := by rw [hΦ]; rfl
  have ph2 : Φs[2]? = some (PV.eq (.agg #[(.bool s2), (.slice a2 m66 c2)])) := by rw [hΦ]; rfl
  have ph3 : Φs[3]? = some (PV.zn 7 (z47 + z66)) := by rw [hΦ]; rfl
  have ph4 : Φs[4]? = some (PV.zn 15 (z28 * (z47 + z66))) := by rw [hΦ]; rfl
  have ph5 : Φs[5]? = some (PV.eq (.agg #[(.bool s0), (.slice a0 m28 c0)])) := by rw [hΦ]; rfl
  have ph6 : Φs[6]? = some (PV.eq (.agg #[(.bool s1), (.slice a1 m47 c1)])) := by rw [hΦ]; rfl
  have ph7 : Φs[7]? = some (PV.zn 14 (z28 * z47)) := by rw [hΦ]; rfl
  have ph8 : Φs[8]? = some (PV.eq (.agg #[(.bool s0), (.slice a0 m28 c0)])) := by rw [hΦ]; rfl
  have ph9 : Φs[9]? = some (PV.eq (.agg #[(.bool s2), (.slice a2 m66 c2)])) := by rw [hΦ]; rfl
  have ph10 : Φs[10]? = some (PV.zn 14 (z28 * z66)) := by rw [hΦ]; rfl
  have ph11 : Φs[11]? = some (PV.zn 15 ((z28 * z47) + (z28 * z66))) := by rw [hΦ]; rfl
  have ph12 : Φs[12]? = some (PV.eq (.int .i64 0)) := by rw [hΦ]; rfl
  have ph13 : Φs[13]? = some (PV.eq (.bool false)) := by rw [hΦ]; rfl
  have ph14 : Φs[14]? = some (PV.eq (.bool false)) := by rw [hΦ]; rfl
  have ph15 : Φs[15]? = some (PV.eq (.agg #[(.bool s0), (.slice a0 m28 c0)])) := by rw [hΦ]; rfl
  have ph16 : Φs[16]? = some (PV.eq (.agg #[(.bool s1), (.slice a1 m47 c1)])) := by rw [hΦ]; rfl
  have ph17 : Φs[17]? = some (PV.zn 9 (z28 + z47)) := by rw [hΦ]; rfl
  have ph18 : Φs[18]? = some (PV.eq (.agg #[(.bool s1), (.slice a1 m47 c1)])) := by rw [hΦ]; rfl
  have ph19 : Φs[19]? = some (PV.zn 10 ((z28 + z47) - z47)) := by rw [hΦ]; rfl
  have ph20 : Φs[20]? = some (PV.eq (.agg #[(.bool s0), (.slice a0 m28 c0)])) := by rw [hΦ]; rfl
  have ph21 : Φs[21]? = some (PV.eq (.int .i64 0)) := by rw [hΦ]; rfl
  have ph22 : Φs[22]? = some (PV.eq (.bool false)) := by rw [hΦ]; rfl
  have ph23 : Φs[23]? = some (PV.eq (.bool false)) := by rw [hΦ]; rfl
  clear hΦ
  refine wp_region_rel 24 122 Φs (by kernel_rfl) rfl rfl (by kernel_rfl) ?_ ?_
  · simp only [List.take_succ_cons, List.take_zero, stepsR]
    refine ⟨?_, ?_, ?_, ?_, ?_, ?_, ?_, ?_, ?_, ?_, ?_, ?_, ?_, ?_, ?_, ?_, ?_, ?_, ?_, ?_, ?_, ?_, ?_, ?_, trivial⟩
    · intro vs w' hE hp
      simp only [Nat.reduceAdd, Act.put, List.setIfInBounds_toArray, List.set_cons_zero, List.set_cons_succ]
      refine ifW_pos (by rfl) ?_
      obtain ⟨a0, a1, a2, a3⟩ := cells2 (hb45.ext (trans_drew hE))
      refine wp_hideK (fun K' hK => ?_)
      go_wp2_with fail
      exact ⟨rfl, Below.refl _ _, (phi_iff ph0).2 rfl⟩
    · intro vs w' hE hp
      simp only [Nat.reduceAdd, Act.put, List.setIfInBounds_toArray, List.set_cons_zero, List.set_cons_succ]
      refine ifW_pos (by rfl) ?_
      obtain ⟨a0, a1, a2, a3⟩ := cells2 (hb64.ext (trans_drew hE))
      refine wp_hideK (fun K' hK => ?_)
      go_wp2_with fail
      exact ⟨rfl, Below.refl _ _, (phi_iff ph1).2 rfl⟩
    · intro vs w' hE hp
      simp only [Nat.reduceAdd, Act.put, List.setIfInBounds_toArray, List.set_cons_zero, List.set_cons_succ]
      refine ifW_pos (by rfl) ?_
      obtain ⟨a0, a1, a2, a3⟩ := cells2 (hb77.ext (trans_drew hE))
      refine wp_hideK (fun K' hK => ?_)
      go_wp2_with fail
      exact ⟨rfl, Below.refl _ _, (phi_iff ph2).2 rfl⟩
    · intro vs w' hE hp
      have p1_3 : vs 1 = (.agg #[(.bool s1), (.slice a1 m47 c1)]) := (phi_iff ph1).1 (hp 1 rfl)
      have p2_3 : vs 2 = (.agg #[(.bool s2), (.slice a2 m66 c2)]) := (phi_iff ph2).1 (hp 2 rfl)
      simp only [Nat.reduceAdd, Act.put, List.setIfInBounds_toArray, List.set_cons_zero, List.set_cons_succ, p1_3, p2_3]
      refine ifW_pos (by rfl) ?_
      have h47 := h47.ext (trans_drew hE)
      have h66 := h66.ext (trans_drew hE)
      refine wp_hideK (fun K' hK => ?_)
      go_wp2_with fail
      refine (wAdd h47 h66).mono ?_
      rintro e w2 ⟨r79, o79, n79, c79, rfl, h79, _, hb⟩
      go_wp2_with fail
      exact ⟨rfl, hb, (phi_iff ph3).2 ⟨_, _, _, _, rfl, h79.mono (by decide)⟩⟩
    · intro vs w' hE hp
      have p0_4 : vs 0 = (.agg #[(.bool s0), (.slice a0 m28 c0)]) := (phi_iff ph0).1 (hp 0 rfl)
      obtain ⟨r3_4, o3_4, n3_4, c3_4, p3_4, q3_4⟩ : ∃ r o n c, vs 3 = .agg #[.bool r, .slice o n c] ∧ Zn 7 w' r o n c (z47 + z66) := (phi_iff ph3).1 (hp 3 rfl)
      simp only [Nat.reduceAdd, Act.put, List.setIfInBounds_toArray, List.set_cons_zero, List.set_cons_succ, p0_4, p3_4]
      refine ifW_pos (by rfl) ?_
      have h28 := h28.ext (trans_drew hE)
      refine wp_hideK (fun K' hK => ?_)
      go_wp2_with fail
      refine (wMul h28 q3_4.any).mono ?_
      rintro e w2 ⟨r80, o80, n80, c80, rfl, h80, _, hb⟩
      go_wp2_with fail
      exact ⟨rfl, hb, (phi_iff ph4).2 ⟨_, _, _, _, rfl, h80.mono (by decide)⟩⟩
    · intro vs w' hE hp
      simp only [Nat.reduceAdd, Act.put, List.setIfInBounds_toArray, List.set_cons_zero, List.set_cons_succ]
      refine ifW_pos (by rfl) ?_
      obtain ⟨a0, a1, a2, a3⟩ := cells2 (hb45.ext (trans_drew hE))
      refine wp_hideK (fun K' hK => ?_)
      go_wp2_with fail
      exact ⟨rfl, Below.refl _ _, (phi_iff ph5).2 rfl⟩
    · intro vs w' hE hp
      simp only [Nat.reduceAdd, Act.put, List.setIfInBounds_toArray, List.set_cons_zero, List.set_cons_succ]
      refine ifW_pos (by rfl) ?_
      obtain ⟨a0, a1, a2, a3⟩ := cells2 (hb64.ext (trans_drew hE))
      refine wp_hideK (fun K' hK => ?_)
      go_wp2_with fail
      exact ⟨rfl, Below.refl _ _, (phi_iff ph6).2 rfl⟩
    · intro vs w' hE hp
      have p5_7 : vs 5 = (.agg #[(.bool s0), (.slice a0 m28 c0)]) := (phi_iff ph5).1 (hp 5 rfl)
      have p6_7 : vs 6 = (.agg #[(.bool s1), (.slice a1 m47 c1)]) := (phi_iff ph6).1 (hp 6 rfl)
      simp only [Nat.reduceAdd, Act.put, List.setIfInBounds_toArray, List.set_cons_zero, List.set_cons_succ, p5_7, p6_7]
      refine ifW_pos (by rfl) ?_
      have h28 := h28.ext (trans_drew hE)
      have h47 := h47.ext (trans_drew hE)
      refine wp_hideK (fun K' hK => ?_)
      go_wp2_with fail
      refine (wMul h28 h47).mono ?_
      rintro e w2 ⟨r81, o81, n81, c81, rfl, h81, _, hb⟩
      go_wp2_with fail
      exact ⟨rfl, hb, (phi_iff ph7).2 ⟨_, _, _, _, rfl, h81.mono (by decide)⟩⟩
    · intro vs w' hE hp
      simp only [Nat.reduceAdd, Act.put, List.setIfInBounds_toArray, List.set_cons_zero, List.set_cons_succ]
      refine ifW_pos (by rfl) ?_
      obtain ⟨a0, a1, a2, a3⟩ := cells2 (hb45.ext (trans_drew hE))
      refine wp_hideK (fun K' hK => ?_)
      go_wp2_with fail
      exact ⟨rfl, Below.refl _ _, (phi_iff ph8).2 rfl⟩
    · intro vs w' hE hp
      simp only [Nat.reduceAdd, Act.put, List.setIfInBounds_toArray, List.set_cons_zero, List.set_cons_succ]
      refine ifW_pos (by rfl) ?_
      obtain ⟨a0, a1, a2, a3⟩ := cells2 (hb77.ext (trans_drew hE))
      refine wp_hideK (fun K' hK => ?_)
      go_wp2_with fail
      exact ⟨rfl, Below.refl _ _, (phi_iff ph9).2 rfl⟩
    · intro vs w' hE hp
      have p8_10 : vs 8 = (.agg #[(.bool s0), (.slice a0 m28 c0)]) := (phi_iff ph8).1 (hp 8 rfl)
      have p9_10 : vs 9 = (.agg #[(.bool s2), (.slice a2 m66 c2)]) := (phi_iff ph9).1 (hp 9 rfl)
      simp only [Nat.reduceAdd, Act.put, List.setIfInBounds_toArray, List.set_cons_zero, List.set_cons_succ, p8_10, p9_10]
      refine ifW_pos (by rfl) ?_
      have h28 := h28.ext (trans_drew hE)
      have h66 := h66.ext (trans_drew hE)
      refine wp_hideK (fun K' hK => ?_)
      go_wp2_with fail
      refine (wMul h28 h66).mono ?_
      rintro e w2 ⟨r82, o82, n82, c82, rfl, h82, _, hb⟩
      go_wp2_with fail
      exact ⟨rfl, hb, (phi_iff ph10).2 ⟨_, _, _, _, rfl, h82.mono (by decide)⟩⟩
    · intro vs w' hE hp
      obtain ⟨r7_11, o7_11, n7_11, c7_11, p7_11, q7_11⟩ : ∃ r o n c, vs 7 = .agg #[.bool r, .slice o n c] ∧ Zn 14 w' r o n c (z28 * z47) := (phi_iff ph7).1 (hp 7 rfl)
      obtain ⟨r10_11, o10_11, n10_11, c10_11, p10_11, q10_11⟩ : ∃ r o n c, vs 10 = .agg #[.bool r, .slice o n c] ∧ Zn 14 w' r o n c (z28 * z66) := (phi_iff ph10).1 (hp 10 rfl)
      simp only [Nat.reduceAdd, Act.put, List.setIfInBounds_toArray, List.set_cons_zero, List.set_cons_succ, p7_11, p10_11]
      refine ifW_pos (by rfl) ?_
      refine wp_hideK (fun K' hK => ?_)
      go_wp2_with fail
      refine (wAdd q7_11.any q10_11.any).mono ?_
      rintro e w2 ⟨r83, o83, n83, c83, rfl, h83, _, hb⟩
      go_wp2_with fail
      exact ⟨rfl, hb, (phi_iff ph11).2 ⟨_, _, _, _, rfl, h83.mono (by decide)⟩⟩
    · intro vs w' hE hp
      obtain ⟨r4_12, o4_12, n4_12, c4_12, p4_12, q4_12⟩ : ∃ r o n c, vs 4 = .agg #[.bool r, .slice o n c] ∧ Zn 15 w' r o n c (z28 * (z47 + z66)) := (phi_iff ph4).1 (hp 4 rfl)
      obtain ⟨r11_12, o11_12, n11_12, c11_12, p11_12, q11_12⟩ : ∃ r o n c, vs 11 = .agg #[.bool r, .slice o n c] ∧ Zn 15 w' r o n c ((z28 * z47) + (z28 * z66)) := (phi_iff ph11).1 (hp 11 rfl)
      simp only [Nat.reduceAdd, Act.put, List.setIfInBounds_toArray, List.set_cons_zero, List.set_cons_succ, p4_12, p11_12]
      refine ifW_pos (by rfl) ?_
      refine wp_hideK (fun K' hK => ?_)
      go_wp2_with fail
      refine (wCmp (v := 0) q4_12.any q11_12.any (by rw [Int.mul_add, cmpZ_same])).mono ?_
      rintro e w2 ⟨rfl, hb⟩
      go_wp2_with fail
      exact ⟨rfl, hb, (phi_iff ph12).2 rfl⟩
    · intro vs w' hE hp
      have p12_13 : vs 12 = (.int .i64 0) := (phi_iff ph12).1 (hp 12 rfl)
      simp only [Nat.reduceAdd, Act.put, List.setIfInBounds_toArray, List.set_cons_zero, List.set_cons_succ, p12_13]
      refine ifW_pos (by rfl) ?_
      refine wp_hideK (fun K' hK => ?_)
      go_wp2_with fail
      exact ⟨rfl, Below.refl _ _, (phi_iff ph13).2 rfl⟩
    · intro vs w' hE hp
      have p13_14 : vs 13 = (.bool false) := (phi_iff ph13).1 (hp 13 rfl)
      simp only [Nat.reduceAdd, Act.put, List.setIfInBounds_toArray, List.set_cons_zero, List.set_cons_succ, p13_14]
      refine ifW_pos (by rfl) ?_
      refine wp_hideK (fun K' hK => ?_)
      go_wp2_with fail
      exact ⟨rfl, Below.refl _ _, (phi_iff ph14).2 rfl⟩
    · intro vs w' hE hp
      have p14_15 : vs 14 = (.bool false) := (phi_iff ph14).1 (hp 14 rfl)
      simp only [Nat.reduceAdd, Act.put, List.setIfInBounds_toArray, List.set_cons_zero, List.set_cons_succ, p14_15]
      refine ifW_pos (by rfl) ?_
      obtain ⟨a0, a1, a2, a3⟩ := cells2 (hb45.ext (trans_drew hE))
      refine wp_hideK (fun K' hK => ?_)
      go_wp2_with fail
      exact ⟨rfl, Below.refl _ _, (phi_iff ph15).2 rfl⟩
    · intro vs w' hE hp
      have p14_16 : vs 14 = (.bool false) := (phi_iff ph14).1 (hp 14 rfl)
      simp only [Nat.reduceAdd, Act.put, List.setIfInBounds_toArray, List.set_cons_zero, List.set_cons_succ, p14_16]
      refine ifW_pos (by rfl) ?_
      obtain ⟨a0, a1, a2, a3⟩ := cells2 (hb64.ext (trans_drew hE))
      refine wp_hideK (fun K' hK => ?_)
      go_wp2_with fail
      exact ⟨rfl, Below.refl _ _, (phi_iff ph16).2 rfl⟩
    · intro vs w' hE hp
      have p15_17 : vs 15 = (.agg #[(.bool s0), (.slice a0 m28 c0)]) := (phi_iff ph15).1 (hp 15 rfl)
      have p16_17 : vs 16 = (.agg #[(.bool s1), (.slice a1 m47 c1)]) := (phi_iff ph16).1 (hp 16 rfl)
      have p14_17 : vs 14 = (.bool false) := (phi_iff ph14).1 (hp 14 rfl)
      simp only [Nat.reduceAdd, Act.put, List.setIfInBounds_toArray, List.set_cons_zero, List.set_cons_succ, p15_17, p16_17, p14_17]
      refine ifW_pos (by rfl) ?_
      have h28 := h28.ext (trans_drew hE)
      have h47 := h47.ext (trans_drew hE)
      refine wp_hideK (fun K' hK => ?_)
      go_wp2_with fail
      refine (wAdd h28 h47).mono ?_
      rintro e w2 ⟨r84, o84, n84, c84, rfl, h84, _, hb⟩
      go_wp2_with fail
      exact ⟨rfl, hb, (phi_iff ph17).2 ⟨_, _, _, _, rfl, h84.mono (by decide)⟩⟩
    · intro vs w' hE hp
      have p14_18 : vs 14 = (.bool false) := (phi_iff ph14).1 (hp 14 rfl)
      simp only [Nat.reduceAdd, Act.put, List.setIfInBounds_toArray, List.set_cons_zero, List.set_cons_succ, p14_18]
      refine ifW_pos (by rfl) ?_
      obtain ⟨a0, a1, a2, a3⟩ := cells2 (hb64.ext (trans_drew hE))
      refine wp_hideK (fun K' hK => ?_)
      go_wp2_with fail
      exact ⟨rfl, Below.refl _ _, (phi_iff ph18).2 rfl⟩
    · intro vs w' hE hp
      obtain ⟨r17_19, o17_19, n17_19, c17_19, p17_19, q17_19⟩ : ∃ r o n c, vs 17 = .agg #[.bool r, .slice o n c] ∧ Zn 9 w' r o n c (z28 + z47) := (phi_iff ph17).1 (hp 17 rfl)
      have p18_19 : vs 18 = (.agg #[(.bool s1), (.slice a1 m47 c1)]) := (phi_iff ph18).1 (hp 18 rfl)
      have p14_19 : vs 14 = (.bool false) := (phi_iff ph14).1 (hp 14 rfl)
      simp only [Nat.reduceAdd, Act.put, List.setIfInBounds_toArray, List.set_cons_zero, List.set_cons_succ, p17_19, p18_19, p14_19]
      refine ifW_pos (by rfl) ?_
      have h47 := h47.ext (trans_drew hE)
      refine wp_hideK (fun K' hK => ?_)
      go_wp2_with fail
      refine (wSub q17_19.any h47).mono ?_
      rintro e w2 ⟨r85, o85, n85, c85, rfl, h85, hb⟩
      go_wp2_with fail
      exact ⟨rfl, hb, (phi_iff ph19).2 ⟨_, _, _, _, rfl, h85.mono (by decide)⟩⟩
    · intro vs w' hE hp
      have p14_20 : vs 14 = (.bool false) := (phi_iff ph14).1 (hp 14 rfl)
      simp only [Nat.reduceAdd, Act.put, List.setIfInBounds_toArray, List.set_cons_zero, List.set_cons_succ, p14_20]
      refine ifW_pos (by rfl) ?_
      obtain ⟨a0, a1, a2, a3⟩ := cells2 (hb45.ext (trans_drew hE))
      refine wp_hideK (fun K' hK => ?_)
      go_wp2_with fail
      exact ⟨rfl, Below.refl _ _, (phi_iff ph20).2 rfl⟩
    · intro vs w' hE hp
      obtain ⟨r19_21, o19_21, n19_21, c19_21, p19_21, q19_21⟩ : ∃ r o n c, vs 19 = .agg #[.bool r, .slice o n c] ∧ Zn 10 w' r o n c ((z28 + z47) - z47) := (phi_iff ph19).1 (hp 19 rfl)
      have p20_21 : vs 20 = (.agg #[(.bool s0), (.slice a0 m28 c0)]) := (phi_iff ph20).1 (hp 20 rfl)
      have p14_21 : vs 14 = (.bool false) := (phi_iff ph14).1 (hp 14 rfl)
      simp only [Nat.reduceAdd, Act.put, List.setIfInBounds_toArray, List.set_cons_zero, List.set_cons_succ, p19_21, p20_21, p14_21]
      refine ifW_pos (by rfl) ?_
      have h28 := h28.ext (trans_drew hE)
      refine wp_hideK (fun K' hK => ?_)
      go_wp2_with fail
      refine (wCmp (v := 0) q19_21.any h28 (by rw [Int.add_sub_cancel, cmpZ_same])).mono ?_
      rintro e w2 ⟨rfl, hb⟩
      go_wp2_with fail
      exact ⟨rfl, hb, (phi_iff ph21).2 rfl⟩
    · intro vs w' hE hp
      have p21_22 : vs 21 = (.int .i64 0) := (phi_iff ph21).1 (hp 21 rfl)
      have p14_22 : vs 14 = (.bool false) := (phi_iff ph14).1 (hp 14 rfl)
      simp only [Nat.reduceAdd, Act.put, List.setIfInBounds_toArray, List.set_cons_zero, List.set_cons_succ, p21_22, p14_22]
      refine ifW_pos (by rfl) ?_
      refine wp_hideK (fun K' hK => ?_)
      go_wp2_with fail
      exact ⟨rfl, Below.refl _ _, (phi_iff ph22).2 rfl⟩
    · intro vs w' hE hp
      have p14_23 : vs 14 = (.bool false) := (phi_iff ph14).1 (hp 14 rfl)
      have p22_23 : vs 22 = (.bool false) := (phi_iff ph22).1 (hp 22 rfl)
      simp only [Nat.reduceAdd, Act.put, List.setIfInBounds_toArray, List.set_cons_zero, List.set_cons_succ, p14_23, p22_23]
      refine ifW_pos (by rfl) ?_
      refine wp_hideK (fun K' hK => ?_)
      go_wp2_with fail
      exact ⟨rfl, Below.refl _ _, (phi_iff ph23).2 rfl⟩
  · intro vs w86 hE hphi
    have p23e : vs 23 = (.bool false) := (phi_iff ph23).1 (hphi 23 (by decide))
    replace h0 := h0.ext (trans_drew hE)
    replace h1 := h1.ext (trans_drew hE)
    replace h2 := h2.ext (trans_drew hE)
    replace h28 := h28.ext (trans_drew hE)
    replace k28 := k28.ext (trans_drew hE)
    replace h47 := h47.ext (trans_drew hE)
    replace k47 := k47.ext (trans_drew hE)
    replace h66 := h66.ext (trans_drew hE)
    replace k66 := k66.ext (trans_drew hE)
    replace hb45 := hb45.ext (trans_drew hE)
    replace hb64 := hb64.ext (trans_drew hE)
    replace hb77 := hb77.ext (trans_drew hE)
    replace hB := ext_trans hB (trans_drew hE)
    clear hphi hE ph0 ph1 ph2 ph3 ph4 ph5 ph6 ph7 ph8 ph9 ph10 ph11 ph12 ph13 ph14 ph15 ph16 ph17 ph18 ph19 ph20 ph21 ph22 ph23
    simp only [putsR, List.take_succ_cons, List.take_zero, List.drop_succ_cons, List.drop_zero, List.drop_nil, Nat.reduceAdd, Act.put, List.setIfInBounds_toArray, List.set_cons_zero, List.set_cons_succ, p23e]
    clear p23e
    by_cases hy : z47 = 0
    · have HY := hid hy; clear hy
      obtain ⟨a87, a88, f89, f90⟩ := cells2 hb64
      have l91 := hb64.lt
      go_wp2_with fail
      clear a87 a88 f89 f90 l91
      refine (wNorm h47).mono ?_
      rintro e w93 ⟨r92, o92, n92, c92, rfl, h92, _, hb94⟩
      replace h0 := h0.ext hb94
      replace h1 := h1.ext hb94
      replace h2 := h2.ext hb94
      replace h28 := h28.ext hb94
      replace k28 := k28.ext hb94
      replace h47 := h47.ext hb94
      replace k47 := k47.ext hb94
      replace h66 := h66.ext hb94
      replace k66 := k66.ext hb94
      replace hb45 := hb45.ext hb94
      replace hb64 := hb64.ext hb94
      replace hb77 := hb77.ext hb94
      replace hB := ext_trans hB hb94
      clear hb94
      go_wp2_with fail
      refine (aZero (b := true) h92 (decide_eq_true HY.out)).mono ?_
      rintro e w95 ⟨rfl, hb96⟩
      replace h0 := h0.ext hb96
      replace h1 := h1.ext hb96
      replace h2 := h2.ext hb96
      replace h28 := h28.ext hb96
      replace k28 := k28.ext hb96
      replace h47 := h47.ext hb96
      replace k47 := k47.ext hb96
      replace h66 := h66.ext hb96
      replace k66 := k66.ext hb96
      replace h92 := h92.ext hb96
      replace hb45 := hb45.ext hb96
      replace hb64 := hb64.ext hb96
      replace hb77 := hb77.ext hb96
      replace hB := ext_trans hB hb96
      clear hb96
      go_wp2_with fail
      refine (lwakes _).mono ?_
      rintro e w97 ⟨rfl, hb98⟩
      replace h0 := h0.ext hb98
      replace h1 := h1.ext hb98
      replace h2 := h2.ext hb98
      replace h28 := h28.ext hb98
      replace k28 := k28.ext hb98
      replace h47 := h47.ext hb98
      replace k47 := k47.ext hb98
      replace h66 := h66.ext hb98
      replace k66 := k66.ext hb98
      replace h92 := h92.ext hb98
      replace hb45 := hb45.ext hb98
      replace hb64 := hb64.ext hb98
      replace hb77 := hb77.ext hb98
      replace hB := ext_trans hB hb98
      clear hb98
      go_wp2
      go_ret
      exact ⟨rfl, hB⟩
    · have HY := hid hy; clear hy
      obtain ⟨sr, hsr⟩ : ∃ v, Int.sign (z28 % z47) = v := ⟨_, rfl⟩
      have hsr0 : decide (sr < 0) = false := by rw [decide_eq_false_iff_not, ← hsr]; have := wl_sign z28 HY.out; omega
      have HSR := hid hsr; clear hsr
      obtain ⟨a87, a88, f89, f90⟩ := cells2 hb64
      have l91 := hb64.lt
      go_wp2_with fail
      clear a87 a88 f89 f90 l91
      refine (wNorm h47).mono ?_
      rintro e w93 ⟨r92, o92, n92, c92, rfl, h92, _, hb94⟩
      replace h0 := h0.ext hb94
      replace h1 := h1.ext hb94
      replace h2 := h2.ext hb94
      replace h28 := h28.ext hb94
      replace k28 := k28.ext hb94
      replace h47 := h47.ext hb94
      replace k47 := k47.ext hb94
      replace h66 := h66.ext hb94
      replace k66 := k66.ext hb94
      replace hb45 := hb45.ext hb94
      replace hb64 := hb64.ext hb94
      replace hb77 := hb77.ext hb94
      replace hB := ext_trans hB hb94
      clear hb94
      go_wp2_with fail
      refine (aZero (b := false) h92 (decide_eq_false HY.out)).mono ?_
      rintro e w95 ⟨rfl, hb96⟩
      replace h0 := h0.ext hb96
      replace h1 := h1.ext hb96
      replace h2 := h2.ext hb96
      replace h28 := h28.ext hb96
      replace k28 := k28.ext hb96
      replace h47 := h47.ext hb96
      replace k47 := k47.ext hb96
      replace h66 := h66.ext hb96
      replace k66 := k66.ext hb96
      replace h92 := h92.ext hb96
      replace hb45 := hb45.ext hb96
      replace hb64 := hb64.ext hb96
      replace hb77 := hb77.ext hb96
      replace hB := ext_trans hB hb96
      clear hb96
      obtain ⟨a97, a98, f99, f100⟩ := cells2 hb45
      have l101 := hb45.lt
      obtain ⟨a102, a103, f104, f105⟩ := cells2 hb64
      have l106 := hb64.lt
      go_wp2_with fail
      clear a97 a98 f99 f100 l101 a102 a103 f104 f105 l106
      refine (wDiv h28 h47 (HY.out)).mono ?_
      rintro e w110 ⟨s107, a107', n107, c107, t107, b107', m107, d107, rfl, h108, h109, hb111⟩
      replace h0 := h0.ext hb111
      replace h1 := h1.ext hb111
      replace h2 := h2.ext hb111
      replace h28 := h28.ext hb111
      replace k28 := k28.ext hb111
      replace h47 := h47.ext hb111
      replace k47 := k47.ext hb111
      replace h66 := h66.ext hb111
      replace k66 := k66.ext hb111
      replace h92 := h92.ext hb111
      replace hb45 := hb45.ext hb111
      replace hb64 := hb64.ext hb111
      replace hb77 := hb77.ext hb111
      replace hB := ext_trans hB hb111
      clear hb111
      go_wp2_with fail
      obtain ⟨w112, g113, hw114, hg115, hb116, al117, ge118, sz119⟩ := mk_alloc w110 [(.bool s107), (.slice a107' n107 c107)] 24 (N := w110.heap.size) rfl
      rw [← hw114]
      have Ng2_g113 := hb45.ne ge118
      have Ng11_g113 := hb64.ne ge118
      have Ng20_g113 := hb77.ne ge118
      have G120 := below_ge hB ge118
      replace hB := ext_trans hB al117
      replace h0 := h0.ext al117
      replace h1 := h1.ext al117
      replace h2 := h2.ext al117
      replace h28 := h28.ext al117
      replace k28 := k28.ext al117
      replace h47 := h47.ext al117
      replace k47 := k47.ext al117
      replace h66 := h66.ext al117
      replace k66 := k66.ext al117
      replace h92 := h92.ext al117
      replace h108 := h108.ext al117
      replace h109 := h109.ext al117
      replace hb45 := hb45.ext al117
      replace hb64 := hb64.ext al117
      replace hb77 := hb77.ext al117
      clear hw114 al117 ge118
      obtain ⟨w121, g122, hw123, hg124, hb125, al126, ge127, sz128⟩ := mk_alloc w112 [(.bool t107), (.slice b107' m107 d107)] 24 (N := w110.heap.size + 1) sz119
      rw [← hw123]
      have Ng2_g122 := hb45.ne ge127
      have Ng11_g122 := hb64.ne ge127
      have Ng20_g122 := hb77.ne ge127
      have Ng113_g122 := hb116.ne ge127
      have G129 := below_ge hB ge127
      replace hB := ext_trans hB al126
      replace h0 := h0.ext al126
      replace h1 := h1.ext al126
      replace h2 := h2.ext al126
      replace h28 := h28.ext al126
      replace k28 := k28.ext al126
      replace h47 := h47.ext al126
      replace k47 := k47.ext al126
      replace h66 := h66.ext al126
      replace k66 := k66.ext al126
      replace h92 := h92.ext al126
      replace h108 := h108.ext al126
      replace h109 := h109.ext al126
      replace hb45 := hb45.ext al126
      replace hb64 := hb64.ext al126
      replace hb77 := hb77.ext al126
      replace hb116 := hb116.ext al126
      clear hw123 al126 ge127
      rw [← hg124]
      rw [← hg115]
      clear hg115 hg124 sz119 sz128
      obtain ⟨Φs, hΦ⟩ : ∃ Φ : List PV, Φ = [PV.eq (.int .i64 0), PV.eq (.bool false), PV.eq (.bool false), PV.eq (.agg #[(.bool s107), (.slice a107' n107 c107)]), PV.eq (.agg #[(.bool s1), (.slice a1 m47 c1)]), PV.zn 16 ((z28 / z47) * z47), PV.eq (.agg #[(.bool t107), (.slice b107' m107 d107)]), PV.zn 17 (((z28 / z47) * z47) + (z28 % z47)), PV.eq (.agg #[(.bool s0), (.slice a0 m28 c0)]), PV.eq (.int .i64 0), PV.eq (.bool false), PV.eq (.bool false), PV.eq (.bool false), PV.eq (.agg #[(.bool t107), (.slice b107' m107 d107)]), PV.eq (.int .i64 sr), PV.eq (.bool false), PV.eq (.bool false), PV.eq (.bool false), PV.eq (.agg #[(.bool t107), (.slice b107' m107 d107)]), PV.eq (.agg #[(.bool s1), (.slice a1 m47 c1)]), PV.zn 6 (Int.natAbs z47 : Int), PV.eq (.int .i64 (-1)), PV.eq (.bool false), PV.eq (.bool false)] := ⟨_, rfl⟩
      have ph0 : Φs[0]? = some (PV.eq (.int .i64 0)) := by rw [hΦ]; rfl
      have ph1 : Φs[1]? = some (PV.eq (.bool false)) := by rw [hΦ]; rfl
      have ph2 : Φs[2]? = some (PV.eq (.bool false)) := by rw [hΦ]; rfl
      have ph3 : Φs[3]? = some (PV.eq (.agg #[(.bool s107), (.slice a107' n107 c107)])) := by rw [hΦ]; rfl
      have ph4 : Φs[4]? = some (PV.eq (.agg #[(.bool s1), (.slice a1 m47 c1)])) := by rw [hΦ]; rfl
      have ph5 : Φs[5]? = some (PV.zn 16 ((z28 / z47) * z47)) := by rw [hΦ]; rfl
      have ph6 : Φs[6]? = some (PV.eq (.agg #[(.bool t107), (.slice b107' m107 d107)])) := by rw [hΦ]; rfl
      have ph7 : Φs[7]? = some (PV.zn 17 (((z28 / z47) * z47) + (z28 % z47))) := by rw [hΦ]; rfl
      have ph8 : Φs[8]? = some (PV.eq (.agg #[(.bool s0), (.slice a0 m28 c0)])) := by rw [hΦ]; rfl
      have ph9 : Φs[9]? = some (PV.eq (.int .i64 0)) := by rw [hΦ]; rfl
      have ph10 : Φs[10]? = some (PV.eq (.bool false)) := by rw [hΦ]; rfl
      have ph11 : Φs[11]? = some (PV.eq (.bool false)) := by rw [hΦ]; rfl
      have ph12 : Φs[12]? = some (PV.eq (.bool false)) := by rw [hΦ]; rfl
      have ph13 : Φs[13]? = some (PV.eq (.agg #[(.bool t107), (.slice b107' m107 d107)])) := by rw [hΦ]; rfl
      have ph14 : Φs[14]? = some (PV.eq (.int .i64 sr)) := by rw [hΦ]; rfl
      have ph15 : Φs[15]? = some (PV.eq (.bool false)) := by rw [hΦ]; rfl
      have ph16 : Φs[16]? = some (PV.eq (.bool false)) := by rw [hΦ]; rfl
      have ph17 : Φs[17]? = some (PV.eq (.bool false)) := by rw [hΦ]; rfl
      have ph18 : Φs[18]? = some (PV.eq (.agg #[(.bool t107), (.slice b107' m107 d107)])) := by rw [hΦ]; rfl
      have ph19 : Φs[19]? = some (PV.eq (.agg #[(.bool s1), (.slice a1 m47 c1)])) := by rw [hΦ]; rfl
      have ph20 : Φs[20]? = some (PV.zn 6 (Int.natAbs z47 : Int)) := by rw [hΦ]; rfl
      have ph21 : Φs[21]? = some (PV.eq (.int .i64 (-1))) := by rw [hΦ]; rfl
      have ph22 : Φs[22]? = some (PV.eq (.bool false)) := by rw [hΦ]; rfl
      have ph23 : Φs[23]? = some (PV.eq (.bool false)) := by rw [hΦ]; rfl
      clear hΦ
      refine wp_region_rel 24 122 Φs (by kernel_rfl) rfl rfl (by kernel_rfl) ?_ ?_
      · simp only [List.take_succ_cons, List.take_zero, stepsR]
        refine ⟨?_, ?_, ?_, ?_, ?_, ?_, ?_, ?_, ?_, ?_, ?_, ?_, ?_, ?_, ?_, ?_, ?_, ?_, ?_, ?_, ?_, ?_, ?_, ?_, trivial⟩
        · intro vs w' hE hp
          simp only [Nat.reduceAdd, Act.put, List.setIfInBounds_toArray, List.set_cons_zero, List.set_cons_succ]
          refine ifW_pos (by rfl) ?_
          refine wp_hideK (fun K' hK => ?_)
          go_wp2_with fail
          exact ⟨rfl, Below.refl _ _, (phi_iff ph0).2 rfl⟩
        · intro vs w' hE hp
          have p0_1 : vs 0 = (.int .i64 0) := (phi_iff ph0).1 (hp 0 rfl)
          simp only [Nat.reduceAdd, Act.put, List.setIfInBounds_toArray, List.set_cons_zero, List.set_cons_succ, p0_1]
          refine ifW_pos (by rfl) ?_
          refine wp_hideK (fun K' hK => ?_)
          go_wp2_with fail
          exact ⟨rfl, Below.refl _ _, (phi_iff ph1).2 rfl⟩
        · intro vs w' hE hp
          have p1_2 : vs 1 = (.bool false) := (phi_iff ph1).1 (hp 1 rfl)
          simp only [Nat.reduceAdd, Act.put, List.setIfInBounds_toArray, List.set_cons_zero, List.set_cons_succ, p1_2]
          refine ifW_pos (by rfl) ?_
          refine wp_hideK (fun K' hK => ?_)
          go_wp2_with fail
          exact ⟨rfl, Below.refl _ _, (phi_iff ph2).2 rfl⟩
        · intro vs w' hE hp
          have p2_3 : vs 2 = (.bool false) := (phi_iff ph2).1 (hp 2 rfl)
          simp only [Nat.reduceAdd, Act.put, List.setIfInBounds_toArray, List.set_cons_zero, List.set_cons_succ, p2_3]
          refine ifW_pos (by rfl) ?_
          obtain ⟨a0, a1, a2, a3⟩ := cells2 (hb116.ext (trans_drew hE))
          refine wp_hideK (fun K' hK => ?_)
          go_wp2_with fail
          exact ⟨rfl, Below.refl _ _, (phi_iff ph3).2 rfl⟩
        · intro vs w' hE hp
          have p2_4 : vs 2 = (.bool false) := (phi_iff ph2).1 (hp 2 rfl)
          simp only [Nat.reduceAdd, Act.put, List.setIfInBounds_toArray, List.set_cons_zero, List.set_cons_succ, p2_4]
          refine ifW_pos (by rfl) ?_
          obtain ⟨a0, a1, a2, a3⟩ := cells2 (hb64.ext (trans_drew hE))
          refine wp_hideK (fun K' hK => ?_)
          go_wp2_with fail
          exact ⟨rfl, Below.refl _ _, (phi_iff ph4).2 rfl⟩
        · intro vs w' hE hp
          have p3_5 : vs 3 = (.agg #[(.bool s107), (.slice a107' n107 c107)]) := (phi_iff ph3).1 (hp 3 rfl)
          have p4_5 : vs 4 = (.agg #[(.bool s1), (.slice a1 m47 c1)]) := (phi_iff ph4).1 (hp 4 rfl)
          have p2_5 : vs 2 = (.bool false) := (phi_iff ph2).1 (hp 2 rfl)
          simp only [Nat.reduceAdd, Act.put, List.setIfInBounds_toArray, List.set_cons_zero, List.set_cons_succ, p3_5, p4_5, p2_5]
          refine ifW_pos (by rfl) ?_
          have h108 := h108.ext (trans_drew hE)
          have h47 := h47.ext (trans_drew hE)
          refine wp_hideK (fun K' hK => ?_)
          go_wp2_with fail
          refine (wMul h108.any h47).mono ?_
          rintro e w2 ⟨r130, o130, n130, c130, rfl, h130, _, hb⟩
          go_wp2_with fail
          exact ⟨rfl, hb, (phi_iff ph5).2 ⟨_, _, _, _, rfl, h130.mono (by decide)⟩⟩
        · intro vs w' hE hp
          have p2_6 : vs 2 = (.bool false) := (phi_iff ph2).1 (hp 2 rfl)
          simp only [Nat.reduceAdd, Act.put, List.setIfInBounds_toArray, List.set_cons_zero, List.set_cons_succ, p2_6]
          refine ifW_pos (by rfl) ?_
          obtain ⟨a0, a1, a2, a3⟩ := cells2 (hb125.ext (trans_drew hE))
          refine wp_hideK (fun K' hK => ?_)
          go_wp2_with fail
          exact ⟨rfl, Below.refl _ _, (phi_iff ph6).2 rfl⟩
        · intro vs w' hE hp
          obtain ⟨r5_7, o5_7, n5_7, c5_7, p5_7, q5_7⟩ : ∃ r o n c, vs 5 = .agg #[.bool r, .slice o n c] ∧ Zn 16 w' r o n c ((z28 / z47) * z47) := (phi_iff ph5).1 (hp 5 rfl)
          have p6_7 : vs 6 = (.agg #[(.bool t107), (.slice b107' m107 d107)]) := (phi_iff ph6).1 (hp 6 rfl)
          have p2_7 : vs 2 = (.bool false) := (phi_iff ph2).1 (hp 2 rfl)
          simp only [Nat.reduceAdd, Act.put, List.setIfInBounds_toArray, List.set_cons_zero, List.set_cons_succ, p5_7, p6_7, p2_7]
          refine ifW_pos (by rfl) ?_
          have h109 := h109.ext (trans_drew hE)
          refine wp_hideK (fun K' hK => ?_)
          go_wp2_with fail
          refine (wAdd q5_7.any h109.any).mono ?_
          rintro e w2 ⟨r131, o131, n131, c131, rfl, h131, _, hb⟩
          go_wp2_with fail
          exact ⟨rfl, hb, (phi_iff ph7).2 ⟨_, _, _, _, rfl, h131.mono (by decide)⟩⟩
        · intro vs w' hE hp
          have p2_8 : vs 2 = (.bool false) := (phi_iff ph2).1 (hp 2 rfl)
          simp only [Nat.reduceAdd, Act.put, List.setIfInBounds_toArray, List.set_cons_zero, List.set_cons_succ, p2_8]
          refine ifW_pos (by rfl) ?_
          obtain ⟨a0, a1, a2, a3⟩ := cells2 (hb45.ext (trans_drew hE))
          refine wp_hideK (fun K' hK => ?_)
          go_wp2_with fail
          exact ⟨rfl, Below.refl _ _, (phi_iff ph8).2 rfl⟩
        · intro vs w' hE hp
          obtain ⟨r7_9, o7_9, n7_9, c7_9, p7_9, q7_9⟩ : ∃ r o n c, vs 7 = .agg #[.bool r, .slice o n c] ∧ Zn 17 w' r o n c (((z28 / z47) * z47) + (z28 % z47)) := (phi_iff ph7).1 (hp 7 rfl)
          have p8_9 : vs 8 = (.agg #[(.bool s0), (.slice a0 m28 c0)]) := (phi_iff ph8).1 (hp 8 rfl)
          have p2_9 : vs 2 = (.bool false) := (phi_iff ph2).1 (hp 2 rfl)
          simp only [Nat.reduceAdd, Act.put, List.setIfInBounds_toArray, List.set_cons_zero, List.set_cons_succ, p7_9, p8_9, p2_9]
          refine ifW_pos (by rfl) ?_
          have h28 := h28.ext (trans_drew hE)
          refine wp_hideK (fun K' hK => ?_)
          go_wp2_with fail
          refine (wCmp (v := 0) q7_9.any h28 (by rw [wl_back, cmpZ_same])).mono ?_
          rintro e w2 ⟨rfl, hb⟩
          go_wp2_with fail
          exact ⟨rfl, hb, (phi_iff ph9).2 rfl⟩
        · intro vs w' hE hp
          have p9_10 : vs 9 = (.int .i64 0) := (phi_iff ph9).1 (hp 9 rfl)
          have p2_10 : vs 2 = (.bool false) := (phi_iff ph2).1 (hp 2 rfl)
          simp only [Nat.reduceAdd, Act.put, List.setIfInBounds_toArray, List.set_cons_zero, List.set_cons_succ, p9_10, p2_10]
          refine ifW_pos (by rfl) ?_
          refine wp_hideK (fun K' hK => ?_)
          go_wp2_with fail
          exact ⟨rfl, Below.refl _ _, (phi_iff ph10).2 rfl⟩
        · intro vs w' hE hp
          have p2_11 : vs 2 = (.bool false) := (phi_iff ph2).1 (hp 2 rfl)
          have p10_11 : vs 10 = (.bool false) := (phi_iff ph10).1 (hp 10 rfl)
          simp only [Nat.reduceAdd, Act.put, List.setIfInBounds_toArray, List.set_cons_zero, List.set_cons_succ, p2_11, p10_11]
          refine ifW_pos (by rfl) ?_
          refine wp_hideK (fun K' hK => ?_)
          go_wp2_with fail
          exact ⟨rfl, Below.refl _ _, (phi_iff ph11).2 rfl⟩
        · intro vs w' hE hp
          have p11_12 : vs 11 = (.bool false) := (phi_iff ph11).1 (hp 11 rfl)
          simp only [Nat.reduceAdd, Act.put, List.setIfInBounds_toArray, List.set_cons_zero, List.set_cons_succ, p11_12]
          refine ifW_pos (by rfl) ?_
          refine wp_hideK (fun K' hK => ?_)
          go_wp2_with fail
          exact ⟨rfl, Below.refl _ _, (phi_iff ph12).2 rfl⟩
        · intro vs w' hE hp
          have p12_13 : vs 12 = (.bool false) := (phi_iff ph12).1 (hp 12 rfl)
          simp only [Nat.reduceAdd, Act.put, List.setIfInBounds_toArray, List.set_cons_zero, List.set_cons_succ, p12_13]
          refine ifW_pos (by rfl) ?_
          obtain ⟨a0, a1, a2, a3⟩ := cells2 (hb125.ext (trans_drew hE))
          refine wp_hideK (fun K' hK => ?_)
          go_wp2_with fail
          exact ⟨rfl, Below.refl _ _, (phi_iff ph13).2 rfl⟩
        · intro vs w' hE hp
          have p13_14 : vs 13 = (.agg #[(.bool t107), (.slice b107' m107 d107)]) := (phi_iff ph13).1 (hp 13 rfl)
          have p12_14 : vs 12 = (.bool false) := (phi_iff ph12).1 (hp 12 rfl)
          simp only [Nat.reduceAdd, Act.put, List.setIfInBounds_toArray, List.set_cons_zero, List.set_cons_succ, p13_14, p12_14]
          refine ifW_pos (by rfl) ?_
          have h109 := h109.ext (trans_drew hE)
          refine wp_hideK (fun K' hK => ?_)
          go_wp2_with fail
          refine (aSign (v := sr) h109 (HSR.out)).mono ?_
          rintro e w2 ⟨rfl, hb⟩
          go_wp2_with fail
          exact ⟨rfl, hb, (phi_iff ph14).2 rfl⟩
        · intro vs w' hE hp
          have p14_15 : vs 14 = (.int .i64 sr) := (phi_iff ph14).1 (hp 14 rfl)
          have p12_15 : vs 12 = (.bool false) := (phi_iff ph12).1 (hp 12 rfl)
          simp only [Nat.reduceAdd, Act.put, List.setIfInBounds_toArray, List.set_cons_zero, List.set_cons_succ, p14_15, p12_15]
          refine ifW_pos (by rfl) ?_
          refine wp_hideK (fun K' hK => ?_)
          go_wp2_with fail
          exact ⟨rfl, Below.refl _ _, (phi_iff ph15).2 rfl⟩
        · intro vs w' hE hp
          have p12_16 : vs 12 = (.bool false) := (phi_iff ph12).1 (hp 12 rfl)
          have p15_16 : vs 15 = (.bool false) := (phi_iff ph15).1 (hp 15 rfl)
          simp only [Nat.reduceAdd, Act.put, List.setIfInBounds_toArray, List.set_cons_zero, List.set_cons_succ, p12_16, p15_16]
          refine ifW_pos (by rfl) ?_
          refine wp_hideK (fun K' hK => ?_)
          go_wp2_with fail
          exact ⟨rfl, Below.refl _ _, (phi_iff ph16).2 rfl⟩
        · intro vs w' hE hp
          have p16_17 : vs 16 = (.bool false) := (phi_iff ph16).1 (hp 16 rfl)
          simp only [Nat.reduceAdd, Act.put, List.setIfInBounds_toArray, List.set_cons_zero, List.set_cons_succ, p16_17]
          refine ifW_pos (by rfl) ?_
          refine wp_hideK (fun K' hK => ?_)
          go_wp2_with fail
          exact ⟨rfl, Below.refl _ _, (phi_iff ph17).2 rfl⟩
        · intro vs w' hE hp
          have p17_18 : vs 17 = (.bool false) := (phi_iff ph17).1 (hp 17 rfl)
          simp only [Nat.reduceAdd, Act.put, List.setIfInBounds_toArray, List.set_cons_zero, List.set_cons_succ, p17_18]
          refine ifW_pos (by rfl) ?_
          obtain ⟨a0, a1, a2, a3⟩ := cells2 (hb125.ext (trans_drew hE))
          refine wp_hideK (fun K' hK => ?_)
          go_wp2_with fail
          exact ⟨rfl, Below.refl _ _, (phi_iff ph18).2 rfl⟩
        · intro vs w' hE hp
          have p17_19 : vs 17 = (.bool false) := (phi_iff ph17).1 (hp 17 rfl)
          simp only [Nat.reduceAdd, Act.put, List.setIfInBounds_toArray, List.set_cons_zero, List.set_cons_succ, p17_19]
          refine ifW_pos (by rfl) ?_
          obtain ⟨a0, a1, a2, a3⟩ := cells2 (hb64.ext (trans_drew hE))
          refine wp_hideK (fun K' hK => ?_)
          go_wp2_with fail
          exact ⟨rfl, Below.refl _ _, (phi_iff ph19).2 rfl⟩
        · intro vs w' hE hp
          have p19_20 : vs 19 = (.agg #[(.bool s1), (.slice a1 m47 c1)]) := (phi_iff ph19).1 (hp 19 rfl)
          have p17_20 : vs 17 = (.bool false) := (phi_iff ph17).1 (hp 17 rfl)
          simp only [Nat.reduceAdd, Act.put, List.setIfInBounds_toArray, List.set_cons_zero, List.set_cons_succ, p19_20, p17_20]
          refine ifW_pos (by rfl) ?_
          have h47 := h47.ext (trans_drew hE)
          refine wp_hideK (fun K' hK => ?_)
          go_wp2_with fail
          refine (wAbs h47).mono ?_
          rintro e w2 ⟨r132, o132, n132, c132, rfl, h132, _, hb⟩
          go_wp2_with fail
          exact ⟨rfl, hb, (phi_iff ph20).2 ⟨_, _, _, _, rfl, h132.mono (by decide)⟩⟩
        · intro vs w' hE hp
          have p18_21 : vs 18 = (.agg #[(.bool t107), (.slice b107' m107 d107)]) := (phi_iff ph18).1 (hp 18 rfl)
          obtain ⟨r20_21, o20_21, n20_21, c20_21, p20_21, q20_21⟩ : ∃ r o n c, vs 20 = .agg #[.bool r, .slice o n c] ∧ Zn 6 w' r o n c (Int.natAbs z47 : Int) := (phi_iff ph20).1 (hp 20 rfl)
          have p17_21 : vs 17 = (.bool false) := (phi_iff ph17).1 (hp 17 rfl)
          simp only [Nat.reduceAdd, Act.put, List.setIfInBounds_toArray, List.set_cons_zero, List.set_cons_succ, p18_21, p20_21, p17_21]
          refine ifW_pos (by rfl) ?_
          have h109 := h109.ext (trans_drew hE)
          refine wp_hideK (fun K' hK => ?_)
          go_wp2_with fail
          refine (wCmp (v := (-1)) h109.any q20_21.any (wl_lt _ HY.out)).mono ?_
          rintro e w2 ⟨rfl, hb⟩
          go_wp2_with fail
          exact ⟨rfl, hb, (phi_iff ph21).2 rfl⟩
        · intro vs w' hE hp
          have p21_22 : vs 21 = (.int .i64 (-1)) := (phi_iff ph21).1 (hp 21 rfl)
          have p17_22 : vs 17 = (.bool false) := (phi_iff ph17).1 (hp 17 rfl)
          simp only [Nat.reduceAdd, Act.put, List.setIfInBounds_toArray, List.set_cons_zero, List.set_cons_succ, p21_22, p17_22]
          refine ifW_pos (by rfl) ?_
          refine wp_hideK (fun K' hK => ?_)
          go_wp2_with fail
          exact ⟨rfl, Below.refl _ _, (phi_iff ph22).2 rfl⟩
        · intro vs w' hE hp
          have p17_23 : vs 17 = (.bool false) := (phi_iff ph17).1 (hp 17 rfl)
          have p22_23 : vs 22 = (.bool false) := (phi_iff ph22).1 (hp 22 rfl)
          simp only [Nat.reduceAdd, Act.put, List.setIfInBounds_toArray, List.set_cons_zero, List.set_cons_succ, p17_23, p22_23]
          refine ifW_pos (by rfl) ?_
          refine wp_hideK (fun K' hK => ?_)
          go_wp2_with fail
          exact ⟨rfl, Below.refl _ _, (phi_iff ph23).2 rfl⟩
      · intro vs w133 hE hphi
        have p23e : vs 23 = (.bool false) := (phi_iff ph23).1 (hphi 23 (by decide))
        replace h0 := h0.ext (trans_drew hE)
        replace h1 := h1.ext (trans_drew hE)
        replace h2 := h2.ext (trans_drew hE)
        replace h28 := h28.ext (trans_drew hE)
        replace k28 := k28.ext (trans_drew hE)
        replace h47 := h47.ext (trans_drew hE)
        replace k47 := k47.ext (trans_drew hE)
        replace h66 := h66.ext (trans_drew hE)
        replace k66 := k66.ext (trans_drew hE)
        replace h92 := h92.ext (trans_drew hE)
        replace h108 := h108.ext (trans_drew hE)
        replace h109 := h109.ext (trans_drew hE)
        replace hb45 := hb45.ext (trans_drew hE)
        replace hb64 := hb64.ext (trans_drew hE)
        replace hb77 := hb77.ext (trans_drew hE)
        replace hb116 := hb116.ext (trans_drew hE)
        replace hb125 := hb125.ext (trans_drew hE)
        replace hB := ext_trans hB (trans_drew hE)
        clear hphi hE ph0 ph1 ph2 ph3 ph4 ph5 ph6 ph7 ph8 ph9 ph10 ph11 ph12 ph13 ph14 ph15 ph16 ph17 ph18 ph19 ph20 ph21 ph22 ph23
        simp only [putsR, List.take_succ_cons, List.take_zero, List.drop_succ_cons, List.drop_zero, List.drop_nil, Nat.reduceAdd, Act.put, List.setIfInBounds_toArray, List.set_cons_zero, List.set_cons_succ, p23e]
        clear p23e
        obtain ⟨a134, a135, f136, f137⟩ := cells2 hb45
        have l138 := hb45.lt
        obtain ⟨a139, a140, f141, f142⟩ := cells2 hb64
        have l143 := hb64.lt
        go_wp2_with fail
        clear a134 a135 f136 f137 l138 a139 a140 f141 f142 l143
        obtain ⟨w144, g145, hw146, hg147, hb148, al149, ge150, sz151⟩ := mk_alloc w133 [(.bool s0), (.slice a0 m28 c0), (.bool s1), (.slice a1 m47 c1)] 24 (N := w133.heap.size) rfl
        rw [← hw146]
        have Ng2_g145 := hb45.ne ge150
        have Ng11_g145 := hb64.ne ge150
        have Ng20_g145 := hb77.ne ge150
        have Ng113_g145 := hb116.ne ge150
        have Ng122_g145 := hb125.ne ge150
        have G152 := below_ge hB ge150
        replace hB := ext_trans hB al149
        replace h0 := h0.ext al149
        replace h1 := h1.ext al149
        replace h2 := h2.ext al149
        replace h28 := h28.ext al149
        replace k28 := k28.ext al149
        replace h47 := h47.ext al149
        replace k47 := k47.ext al149
        replace h66 := h66.ext al149
        replace k66 := k66.ext al149
        replace h92 := h92.ext al149
        replace h108 := h108.ext al149
        replace h109 := h109.ext al149
        replace hb45 := hb45.ext al149
        replace hb64 := hb64.ext al149
        replace hb77 := hb77.ext al149
        replace hb116 := hb116.ext al149
        replace hb125 := hb125.ext al149
        clear hw146 al149 ge150
        rw [← hg147]
        clear hg147 sz151
        refine (wGcd (in_blk2 (K := 8) hb148 ((h28)) (((h47)).mono (by decide)))).mono ?_
        rintro e w154 ⟨r153, o153, n153, c153, rfl, h153, hb155⟩
        replace h0 := h0.ext hb155
        replace h1 := h1.ext hb155
        replace h2 := h2.ext hb155
        replace h28 := h28.ext hb155
        replace k28 := k28.ext hb155
        replace h47 := h47.ext hb155
        replace k47 := k47.ext hb155
        replace h66 := h66.ext hb155
        replace k66 := k66.ext hb155
        replace h92 := h92.ext hb155
        replace h108 := h108.ext hb155
        replace h109 := h109.ext hb155
        replace hb45 := hb45.ext hb155
        replace hb64 := hb64.ext hb155
        replace hb77 := hb77.ext hb155
        replace hb116 := hb116.ext hb155
        replace hb125 := hb125.ext hb155
        replace hb148 := hb148.ext hb155
        replace hB := ext_trans hB hb155
        clear hb155
        obtain ⟨a156, a157, f158, f159⟩ := cells2 hb45
        have l160 := hb45.lt
        go_wp2_with fail
        clear a156 a157 f158 f159 l160
        obtain ⟨w161, g162, hw163, hg164, hb165, al166, ge167, sz168⟩ := mk_alloc w154 [(.bool r153), (.slice o153 n153 c153)] 24 (N := w154.heap.size) rfl
        rw [← hw163]
        have Ng2_g162 := hb45.ne ge167
        have Ng11_g162 := hb64.ne ge167
        have Ng20_g162 := hb77.ne ge167
        have Ng113_g162 := hb116.ne ge167
        have Ng122_g162 := hb125.ne ge167
        have Ng145_g162 := hb148.ne ge167
        have G169 := below_ge hB ge167
        replace hB := ext_trans hB al166
        replace h0 := h0.ext al166
        replace h1 := h1.ext al166
        replace h2 := h2.ext al166
        replace h28 := h28.ext al166
        replace k28 := k28.ext al166
        replace h47 := h47.ext al166
        replace k47 := k47.ext al166
        replace h66 := h66.ext al166
        replace k66 := k66.ext al166
        replace h92 := h92.ext al166
        replace h108 := h108.ext al166
        replace h109 := h109.ext al166
        replace h153 := h153.ext al166
        replace hb45 := hb45.ext al166
        replace hb64 := hb64.ext al166
        replace hb77 := hb77.ext al166
        replace hb116 := hb116.ext al166
        replace hb125 := hb125.ext al166
        replace hb148 := hb148.ext al166
        clear hw163 al166 ge167
        rw [← hg164]
        clear hg164 sz168
        refine (wExact h28 h153.any (wl_ne HY.out) (wl_dvd1 _ _)).mono ?_
        rintro e w171 ⟨s170, a170', n170, c170, rfl, h170, hb172⟩
        replace h0 := h0.ext hb172
        replace h1 := h1.ext hb172
        replace h2 := h2.ext hb172
        replace h28 := h28.ext hb172
        replace k28 := k28.ext hb172
        replace h47 := h47.ext hb172
        replace k47 := k47.ext hb172
        replace h66 := h66.ext hb172
        replace k66 := k66.ext hb172
        replace h92 := h92.ext hb172
        replace h108 := h108.ext hb172
        replace h109 := h109.ext hb172
        replace h153 := h153.ext hb172
        replace hb45 := hb45.ext hb172
        replace hb64 := hb64.ext hb172
        replace hb77 := hb77.ext hb172
        replace hb116 := hb116.ext hb172
        replace hb125 := hb125.ext hb172
        replace hb148 := hb148.ext hb172
        replace hb165 := hb165.ext hb172
        replace hB := ext_trans hB hb172
        clear hb172
        obtain ⟨a173, a174, f175, f176⟩ := cells2 hb64
        have l177 := hb64.lt
        obtain ⟨a178, a179, f180, f181⟩ := cells2 hb165
        have l182 := hb165.lt
        go_wp2_with fail
        clear a173 a174 f175 f176 l177 a178 a179 f180 f181 l182
        obtain ⟨w183, g184, hw185, hg186, hb187, al188, ge189, sz190⟩ := mk_alloc w171 [(.bool s170), (.slice a170' n170 c170)] 24 (N := w171.heap.size) rfl
        rw [← hw185]
        have Ng2_g184 := hb45.ne ge189
        have Ng11_g184 := hb64.ne ge189
        have Ng20_g184 := hb77.ne ge189
        have Ng113_g184 := hb116.ne ge189
        have Ng122_g184 := hb125.ne ge189
        have Ng145_g184 := hb148.ne ge189
        have Ng162_g184 := hb165.ne ge189
        have G191 := below_ge hB ge189
        replace hB := ext_trans hB al188
        replace h0 := h0.ext al188
        replace h1 := h1.ext al188
        replace h2 := h2.ext al188
        replace h28 := h28.ext al188
        replace k28 := k28.ext al188
        replace h47 := h47.ext al188
        replace k47 := k47.ext al188
        replace h66 := h66.ext al188
        replace k66 := k66.ext al188
        replace h92 := h92.ext al188
        replace h108 := h108.ext al188
        replace h109 := h109.ext al188
        replace h153 := h153.ext al188
        replace h170 := h170.ext al188
        replace hb45 := hb45.ext al188
        replace hb64 := hb64.ext al188
        replace hb77 := hb77.ext al188
        replace hb116 := hb116.ext al188
        replace hb125 := hb125.ext al188
        replace hb148 := hb148.ext al188
        replace hb165 := hb165.ext al188
        clear hw185 al188 ge189
        rw [← hg186]
        clear hg186 sz190
        refine (wExact h47 h153.any (wl_ne HY.out) (wl_dvd2 _ _)).mono ?_
        rintro e w193 ⟨s192, a192', n192, c192, rfl, h192, hb194⟩
        replace h0 := h0.ext hb194
        replace h1 := h1.ext hb194
        replace h2 := h2.ext hb194
        replace h28 := h28.ext hb194
        replace k28 := k28.ext hb194
        replace h47 := h47.ext hb194
        replace k47 := k47.ext hb194
        replace h66 := h66.ext hb194
        replace k66 := k66.ext hb194
        replace h92 := h92.ext hb194
        replace h108 := h108.ext hb194
        replace h109 := h109.ext hb194
        replace h153 := h153.ext hb194
        replace h170 := h170.ext hb194
        replace hb45 := hb45.ext hb194
        replace hb64 := hb64.ext hb194
        replace hb77 := hb77.ext hb194
        replace hb116 := hb116.ext hb194
        replace hb125 := hb125.ext hb194
        replace hb148 := hb148.ext hb194
        replace hb165 := hb165.ext hb194
        replace hb187 := hb187.ext hb194
        replace hB := ext_trans hB hb194
        clear hb194
        go_wp2_with fail
        obtain ⟨w195, g196, hw197, hg198, hb199, al200, ge201, sz202⟩ := mk_alloc w193 [(.bool s192), (.slice a192' n192 c192)] 24 (N := w193.heap.size) rfl
        rw [← hw197]
        have Ng2_g196 := hb45.ne ge201
        have Ng11_g196 := hb64.ne ge201
        have Ng20_g196 := hb77.ne ge201
        have Ng113_g196 := hb116.ne ge201
        have Ng122_g196 := hb125.ne ge201
        have Ng145_g196 := hb148.ne ge201
        have Ng162_g196 := hb165.ne ge201
        have Ng184_g196 := hb187.ne ge201
        have G203 := below_ge hB ge201
        replace hB := ext_trans hB al200
        replace h0 := h0.ext al200
        replace h1 := h1.ext al200
        replace h2 := h2.ext al200
        replace h28 := h28.ext al200
        replace k28 := k28.ext al200
        replace h47 := h47.ext al200
        replace k47 := k47.ext al200
        replace h66 := h66.ext al200
        replace k66 := k66.ext al200
        replace h92 := h92.ext al200
        replace h108 := h108.ext al200
        replace h109 := h109.ext al200
        replace h153 := h153.ext al200
        replace h170 := h170.ext al200
        replace h192 := h192.ext al200
        replace hb45 := hb45.ext al200
        replace hb64 := hb64.ext al200
        replace hb77 := hb77.ext al200
        replace hb116 := hb116.ext al200
        replace hb125 := hb125.ext al200
        replace hb148 := hb148.ext al200
        replace hb165 := hb165.ext al200
        replace hb187 := hb187.ext al200
        clear hw197 al200 ge201
        rw [← hg198]
        clear hg198 sz202
        obtain ⟨Φs, hΦ⟩ : ∃ Φ : List PV, Φ = [PV.eq (.int .i64 0), PV.eq (.bool true), PV.eq (.bool true), PV.eq (.int .i64 0), PV.eq (.bool true), PV.eq (.bool true), PV.eq (.bool true), PV.rn 64 1, PV.eq (.agg #[(.bool s170), (.slice a170' n170 c170)]), PV.eq (.agg #[(.bool s192), (.slice a192' n192 c192)]), PV.inn 10 2 [(z28 / ((gcdL [z28, z47] : Nat) : Int)), (z47 / ((gcdL [z28, z47] : Nat) : Int))], PV.zn 10 ((gcdL [(z28 / ((gcdL [z28, z47] : Nat) : Int)), (z47 / ((gcdL [z28, z47] : Nat) : Int))] : Nat) : Int), PV.eq (.bool true), PV.eq (.bool true), PV.eq (.bool true), PV.eq (.bool true), PV.eq (.bool true), PV.eq (.bool true)] := ⟨_, rfl⟩
        have ph0 : Φs[0]? = some (PV.eq (.int .i64 0)) := by rw [hΦ]; rfl
        have ph1 : Φs[1]? = some (PV.eq (.bool true)) := by rw [hΦ]; rfl
        have ph2 : Φs[2]? = some (PV.eq (.bool true)) := by rw [hΦ]; rfl
        have ph3 : Φs[3]? = some (PV.eq (.int .i64 0)) := by rw [hΦ]; rfl
        have ph4 : Φs[4]? = some (PV.eq (.bool true)) := by rw [hΦ]; rfl
        have ph5 : Φs[5]? = some (PV.eq (.bool true)) := by rw [hΦ]; rfl
        have ph6 : Φs[6]? = some (PV.eq (.bool true)) := by rw [hΦ]; rfl
        have ph7 : Φs[7]? = some (PV.rn 64 1) := by rw [hΦ]; rfl
        have ph8 : Φs[8]? = some (PV.eq (.agg #[(.bool s170), (.slice a170' n170 c170)])) := by rw [hΦ]; rfl
        have ph9 : Φs[9]? = some (PV.eq (.agg #[(.bool s192), (.slice a192' n192 c192)])) := by rw [hΦ]; rfl
        have ph10 : Φs[10]? = some (PV.inn 10 2 [(z28 / ((gcdL [z28, z47] : Nat) : Int)), (z47 / ((gcdL [z28, z47] : Nat) : Int))]) := by rw [hΦ]; rfl
        have ph11 : Φs[11]? = some (PV.zn 10 ((gcdL [(z28 / ((gcdL [z28, z47] : Nat) : Int)), (z47 / ((gcdL [z28, z47] : Nat) : Int))] : Nat) : Int)) := by rw [hΦ]; rfl
        have ph12 : Φs[12]? = some (PV.eq (.bool true)) := by rw [hΦ]; rfl
        have ph13 : Φs[13]? = some (PV.eq (.bool true)) := by rw [hΦ]; rfl
        have ph14 : Φs[14]? = some (PV.eq (.bool true)) := by rw [hΦ]; rfl
        have ph15 : Φs[15]? = some (PV.eq (.bool true)) := by rw [hΦ]; rfl
        have ph16 : Φs[16]? = some (PV.eq (.bool true)) := by rw [hΦ]; rfl
        have ph17 : Φs[17]? = some (PV.eq (.bool true)) := by rw [hΦ]; rfl
        clear hΦ
        refine wp_region_rel 18 122 Φs (by kernel_rfl) rfl rfl (by kernel_rfl) ?_ ?_
        · simp only [List.take_succ_cons, List.take_zero, stepsR]
          refine ⟨?_, ?_, ?_, ?_, ?_, ?_, ?_, ?_, ?_, ?_, ?_, ?_, ?_, ?_, ?_, ?_, ?_, ?_, trivial⟩
          · intro vs w' hE hp
            simp only [Nat.reduceAdd, Act.put, List.setIfInBounds_toArray, List.set_cons_zero, List.set_cons_succ]
            refine ifW_pos (by rfl) ?_
            refine wp_hideK (fun K' hK => ?_)
            go_wp2_with fail
            exact ⟨rfl, Below.refl _ _, (phi_iff ph0).2 rfl⟩
          · intro vs w' hE hp
            have p0_1 : vs 0 = (.int .i64 0) := (phi_iff ph0).1 (hp 0 rfl)
            simp only [Nat.reduceAdd, Act.put, List.setIfInBounds_toArray, List.set_cons_zero, List.set_cons_succ, p0_1]
            refine ifW_pos (by rfl) ?_
            refine wp_hideK (fun K' hK => ?_)
            go_wp2_with fail
            exact ⟨rfl, Below.refl _ _, (phi_iff ph1).2 rfl⟩
          · intro vs w' hE hp
            have p1_2 : vs 1 = (.bool true) := (phi_iff ph1).1 (hp 1 rfl)
            simp only [Nat.reduceAdd, Act.put, List.setIfInBounds_toArray, List.set_cons_zero, List.set_cons_succ, p1_2]
            refine ifW_pos (by rfl) ?_
            refine wp_hideK (fun K' hK => ?_)
            go_wp2_with fail
            exact ⟨rfl, Below.refl _ _, (phi_iff ph2).2 rfl⟩
          · intro vs w' hE hp
            have p2_3 : vs 2 = (.bool true) := (phi_iff ph2).1 (hp 2 rfl)
            simp only [Nat.reduceAdd, Act.put, List.setIfInBounds_toArray, List.set_cons_zero, List.set_cons_succ, p2_3]
            refine ifW_pos (by rfl) ?_
            refine wp_hideK (fun K' hK => ?_)
            go_wp2_with fail
            exact ⟨rfl, Below.refl _ _, (phi_iff ph3).2 rfl⟩
          · intro vs w' hE hp
            have p3_4 : vs 3 = (.int .i64 0) := (phi_iff ph3).1 (hp 3 rfl)
            have p2_4 : vs 2 = (.bool true) := (phi_iff ph2).1 (hp 2 rfl)
            simp only [Nat.reduceAdd, Act.put, List.setIfInBounds_toArray, List.set_cons_zero, List.set_cons_succ, p3_4, p2_4]
            refine ifW_pos (by rfl) ?_
            refine wp_hideK (fun K' hK => ?_)
            go_wp2_with fail
            exact ⟨rfl, Below.refl _ _, (phi_iff ph4).2 rfl⟩
          · intro vs w' hE hp
            have p2_5 : vs 2 = (.bool true) := (phi_iff ph2).1 (hp 2 rfl)
            have p4_5 : vs 4 = (.bool true) := (phi_iff ph4).1 (hp 4 rfl)
            simp only [Nat.reduceAdd, Act.put, List.setIfInBounds_toArray, List.set_cons_zero, List.set_cons_succ, p2_5, p4_5]
            refine ifW_pos (by rfl) ?_
            refine wp_hideK (fun K' hK => ?_)
            go_wp2_with fail
            exact ⟨rfl, Below.refl _ _, (phi_iff ph5).2 rfl⟩
          · intro vs w' hE hp
            have p5_6 : vs 5 = (.bool true) := (phi_iff ph5).1 (hp 5 rfl)
            simp only [Nat.reduceAdd, Act.put, List.setIfInBounds_toArray, List.set_cons_zero, List.set_cons_succ, p5_6]
            refine ifW_pos (by rfl) ?_
            refine wp_hideK (fun K' hK => ?_)
            go_wp2_with fail
            exact ⟨rfl, Below.refl _ _, (phi_iff ph6).2 rfl⟩
          · intro vs w' hE hp
            have p6_7 : vs 6 = (.bool true) := (phi_iff ph6).1 (hp 6 rfl)
            simp only [Nat.reduceAdd, Act.put, List.setIfInBounds_toArray, List.set_cons_zero, List.set_cons_succ, p6_7]
            refine ifW_pos (by rfl) ?_
            refine wp_hideK (fun K' hK => ?_)
            go_wp2_with fail
            refine (rOf 1 _ (by omega) (by omega)).mono ?_
            rintro e w2 ⟨o204, n204, c204, r204, rfl, h204, hb⟩
            go_wp2_with fail
            exact ⟨rfl, hb, (phi_iff ph7).2 ⟨_, _, _, _, rfl, h204.mono (by decide)⟩⟩
          · intro vs w' hE hp
            have p6_8 : vs 6 = (.bool true) := (phi_iff ph6).1 (hp 6 rfl)
            simp only [Nat.reduceAdd, Act.put, List.setIfInBounds_toArray, List.set_cons_zero, List.set_cons_succ, p6_8]
            refine ifW_pos (by rfl) ?_
            obtain ⟨a0, a1, a2, a3⟩ := cells2 (hb187.ext (trans_drew hE))
            refine wp_hideK (fun K' hK => ?_)
            go_wp2_with fail
            exact ⟨rfl, Below.refl _ _, (phi_iff ph8).2 rfl⟩
          · intro vs w' hE hp
            have p6_9 : vs 6 = (.bool true) := (phi_iff ph6).1 (hp 6 rfl)
            simp only [Nat.reduceAdd, Act.put, List.setIfInBounds_toArray, List.set_cons_zero, List.set_cons_succ, p6_9]
            refine ifW_pos (by rfl) ?_
            obtain ⟨a0, a1, a2, a3⟩ := cells2 (hb199.ext (trans_drew hE))
            refine wp_hideK (fun K' hK => ?_)
            go_wp2_with fail
            exact ⟨rfl, Below.refl _ _, (phi_iff ph9).2 rfl⟩
          · intro vs w' hE hp
            have p8_10 : vs 8 = (.agg #[(.bool s170), (.slice a170' n170 c170)]) := (phi_iff ph8).1 (hp 8 rfl)
            have p9_10 : vs 9 = (.agg #[(.bool s192), (.slice a192' n192 c192)]) := (phi_iff ph9).1 (hp 9 rfl)
            have p6_10 : vs 6 = (.bool true) := (phi_iff ph6).1 (hp 6 rfl)
            simp only [Nat.reduceAdd, Act.put, List.setIfInBounds_toArray, List.set_cons_zero, List.set_cons_succ, p8_10, p9_10, p6_10]
            refine ifW_pos (by rfl) ?_
            have h170 := h170.ext (trans_drew hE)
            have h192 := h192.ext (trans_drew hE)
            refine wp_hideK (fun K' hK => ?_)
            go_wp2_with fail
            exact ⟨rfl, alloc_ext _ _, (phi_iff ph10).2 (new_in (fun w2 g hb hblk => in_blk2 (K := 10) hblk ((h170.any).ext hb) (((h192.any).ext hb).mono (by decide))))⟩
          · intro vs w' hE hp
            obtain ⟨g10_11, p10_11, q10_11⟩ : ∃ g, vs 10 = .slice (some ⟨g, 0, none⟩) 2 2 ∧ In 10 w' (some ⟨g, 0, none⟩) 2 2 [(z28 / ((gcdL [z28, z47] : Nat) : Int)), (z47 / ((gcdL [z28, z47] : Nat) : Int))] := (phi_iff ph10).1 (hp 10 rfl)
            have p6_11 : vs 6 = (.bool true) := (phi_iff ph6).1 (hp 6 rfl)
            simp only [Nat.reduceAdd, Act.put, List.setIfInBounds_toArray, List.set_cons_zero, List.set_cons_succ, p10_11, p6_11]
            refine ifW_pos (by rfl) ?_
            refine wp_hideK (fun K' hK => ?_)
            go_wp2_with fail
            refine (wGcd q10_11).mono ?_
            rintro e w2 ⟨r205, o205, n205, c205, rfl, h205, hb⟩
            go_wp2_with fail
            exact ⟨rfl, hb, (phi_iff ph11).2 ⟨_, _, _, _, rfl, h205.mono (by decide)⟩⟩
          · intro vs w' hE hp
            obtain ⟨o7_12, n7_12, c7_12, r7_12, p7_12, q7_12⟩ : ∃ o n c r, vs 7 = .agg #[.slice o n c, .bool r] ∧ Rn 64 w' o n c r 1 := (phi_iff ph7).1 (hp 7 rfl)
            obtain ⟨r11_12, o11_12, n11_12, c11_12, p11_12, q11_12⟩ : ∃ r o n c, vs 11 = .agg #[.bool r, .slice o n c] ∧ Zn 10 w' r o n c ((gcdL [(z28 / ((gcdL [z28, z47] : Nat) : Int)), (z47 / ((gcdL [z28, z47] : Nat) : Int))] : Nat) : Int) := (phi_iff ph11).1 (hp 11 rfl)
            have p6_12 : vs 6 = (.bool true) := (phi_iff ph6).1 (hp 6 rfl)
            simp only [Nat.reduceAdd, Act.put, List.setIfInBounds_toArray, List.set_cons_zero, List.set_cons_succ, p7_12, p11_12, p6_12]
            refine ifW_pos (by rfl) ?_
            refine wp_hideK (fun K' hK => ?_)
            go_wp2_with fail
            refine (lis q7_12 q11_12 (wl_prime HY.out)).mono ?_
            rintro e w2 ⟨rfl, hb⟩
            go_wp2_with fail
            exact ⟨rfl, hb, (phi_iff ph12).2 rfl⟩
          · intro vs w' hE hp
            have p6_13 : vs 6 = (.bool true) := (phi_iff ph6).1 (hp 6 rfl)
            have p12_13 : vs 12 = (.bool true) := (phi_iff ph12).1 (hp 12 rfl)
            simp only [Nat.reduceAdd, Act.put, List.setIfInBounds_toArray, List.set_cons_zero, List.set_cons_succ, p6_13, p12_13]
            refine ifW_pos (by rfl) ?_
            refine wp_hideK (fun K' hK => ?_)
            go_wp2_with fail
            exact ⟨rfl, Below.refl _ _, (phi_iff ph13).2 rfl⟩
          · intro vs w' hE hp
            have p13_14 : vs 13 = (.bool true) := (phi_iff ph13).1 (hp 13 rfl)
            simp only [Nat.reduceAdd, Act.put, List.setIfInBounds_toArray, List.set_cons_zero, List.set_cons_succ, p13_14]
            refine ifW_pos (by rfl) ?_
            refine wp_hideK (fun K' hK => ?_)
            go_wp2_with fail
            exact ⟨rfl, Below.refl _ _, (phi_iff ph14).2 rfl⟩
          · intro vs w' hE hp
            have p14_15 : vs 14 = (.bool true) := (phi_iff ph14).1 (hp 14 rfl)
            simp only [Nat.reduceAdd, Act.put, List.setIfInBounds_toArray, List.set_cons_zero, List.set_cons_succ, p14_15]
            refine ifW_pos (by rfl) ?_
            refine wp_hideK (fun K' hK => ?_)
            go_wp2_with fail
            refine (lwakes _).mono ?_
            rintro e w2 ⟨rfl, hb⟩
            go_wp2_with fail
            exact ⟨rfl, hb, (phi_iff ph15).2 rfl⟩
          · intro vs w' hE hp
            have p14_16 : vs 14 = (.bool true) := (phi_iff ph14).1 (hp 14 rfl)
            have p15_16 : vs 15 = (.bool true) := (phi_iff ph15).1 (hp 15 rfl)
            simp only [Nat.reduceAdd, Act.put, List.setIfInBounds_toArray, List.set_cons_zero, List.set_cons_succ, p14_16, p15_16]
            refine ifW_pos (by rfl) ?_
            refine wp_hideK (fun K' hK => ?_)
            go_wp2_with fail
            exact ⟨rfl, Below.refl _ _, (phi_iff ph16).2 rfl⟩
          · intro vs w' hE hp
            have p16_17 : vs 16 = (.bool true) := (phi_iff ph16).1 (hp 16 rfl)
            simp only [Nat.reduceAdd, Act.put, List.setIfInBounds_toArray, List.set_cons_zero, List.set_cons_succ, p16_17]
            refine ifW_pos (by rfl) ?_
            refine wp_hideK (fun K' hK => ?_)
            go_wp2_with fail
            exact ⟨rfl, Below.refl _ _, (phi_iff ph17).2 rfl⟩
        · intro vs w206 hE hphi
          have p17e : vs 17 = (.bool true) := (phi_iff ph17).1 (hphi 17 (by decide))
          replace h0 := h0.ext (trans_drew hE)
          replace h1 := h1.ext (trans_drew hE)
          replace h2 := h2.ext (trans_drew hE)
          replace h28 := h28.ext (trans_drew hE)
          replace k28 := k28.ext (trans_drew hE)
          replace h47 := h47.ext (trans_drew hE)
          replace k47 := k47.ext (trans_drew hE)
          replace h66 := h66.ext (trans_drew hE)
          replace k66 := k66.ext (trans_drew hE)
          replace h92 := h92.ext (trans_drew hE)
          replace h108 := h108.ext (trans_drew hE)
          replace h109 := h109.ext (trans_drew hE)
          replace h153 := h153.ext (trans_drew hE)
          replace h170 := h170.ext (trans_drew hE)
          replace h192 := h192.ext (trans_drew hE)
          replace hb45 := hb45.ext (trans_drew hE)
          replace hb64 := hb64.ext (trans_drew hE)
          replace hb77 := hb77.ext (trans_drew hE)
          replace hb116 := hb116.ext (trans_drew hE)
          replace hb125 := hb125.ext (trans_drew hE)
          replace hb148 := hb148.ext (trans_drew hE)
          replace hb165 := hb165.ext (trans_drew hE)
          replace hb187 := hb187.ext (trans_drew hE)
          replace hb199 := hb199.ext (trans_drew hE)
          replace hB := ext_trans hB (trans_drew hE)
          clear hphi hE ph0 ph1 ph2 ph3 ph4 ph5 ph6 ph7 ph8 ph9 ph10 ph11 ph12 ph13 ph14 ph15 ph16 ph17
          simp only [putsR, List.take_succ_cons, List.take_zero, List.drop_succ_cons, List.drop_zero, List.drop_nil, Nat.reduceAdd, Act.put, List.setIfInBounds_toArray, List.set_cons_zero, List.set_cons_succ, p17e]
          clear p17e
          go_wp2
          go_ret
          exact ⟨rfl, hB⟩

end Go.Proofs.Ytkcagkcphobmfaa
